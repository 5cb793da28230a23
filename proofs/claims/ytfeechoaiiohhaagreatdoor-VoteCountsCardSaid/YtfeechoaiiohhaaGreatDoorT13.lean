/- A PART OF THE PROOF: contracts of functions, each walked once (much of it printed by a program of the author's own). -/
import Derived.Test.YtfeechoaiiohhaaGreatDoorT12
import Derived.Test.YtfeechoaiiohhaaGreatDoorT3
import Derived.Test.YtfeechoaiiohhaaGreatDoorT2
import Derived.Test.YtfeechoaiiohhaaGreatDoorT8
import Derived.Test.YtfeechoaiiohhaaGreatDoorT5
import Derived.Test.YtfeechoaiiohhaaGreatDoorT7
import Derived.Test.YtfeechoaiiohhaaGreatDoorT11
set_option linter.unusedSimpArgs false
set_option linter.unusedVariables false
namespace Go.Pk
open Go Go.RowKit Go.Proofs
set_option maxRecDepth 4000 in
theorem c_slices_AppendSeq_LLint_Lint {h : Heap} {w : World} (hs : Sub h w) {g : FuncId} {caps : List Value} {A : List (List Int) → Heap → Value → List Int → Prop} {T_ : List (List Int)} (eg : ∀ a w, (callFunc g a).run Tryz.prog w = .ok (.enter g a) w) (seq : GivesA Tryz.prog g caps A (fun xs => xs = T_) h) (hA : ∀ pre h u x, A pre h u x → Sl LInt h u x ∧ pre.length < 100000) (hT : T_.length ≤ 100000) : Calls Tryz.prog 130 #[.slice none 0 0, .func (.func g) #[] caps.toArray] w (Rets h w (fun h' _ res_ => ∃ u0, res_ = u0 ∧ Sl (LSl LInt) h' u0 (T_))) := by
 refine V.calls (n := 13) (args := [.slice none 0 0, .func (.func g) #[] caps.toArray]) Tryz.func130 X X X ?_
 have st0 : St h w h w [] := St.start hs
 refine V.seq<|V.region X<|OpsL.boxO st0 (cs := [(.slice none 0 0)]) X X X ?_
 intro b1 w2 st3
 refine v_asL X X<|zx<|ThenV.norm<|V.seq<|V.seq<|V.region X<|v_move X X<|zx<|ThenV.norm<|V.block ?_
 have st4 := st3.snoc
 have f5 := OSl.nil (LSl LInt) 42 h
 refine V.rangeFuncP (I := fun xs h_ own_ => ∃ (v_ : Value) (o_ : List (Nat × Obj)), own_ = [[(b1, .cells (List.toArray [v_]) 87)], o_] ∧ OSl (LSl LInt) 42 h_ v_ xs o_) (Ix := fun _ _ _ _ => False) st4 rfl eg rfl (seq _ _ _ (Le.refl _)) (by rintro xs_ h1_ h2_ o1_ ⟨v_, o_, rfl, q_⟩ l_; exact ⟨v_, o_, rfl, q_.up l_⟩) (by intro _ _ _ _ _ h_ _; exact h_) ⟨.slice none 0 0, [], rfl, by exact OSl.nil (LSl LInt) 42 _⟩ ?_ ?_ ?_
 ·rintro l_ pre x h6 w7 _ tail u8 le9 ⟨v_, o_, rfl, hi11⟩ st10 hA12
  have hpl := (hA _ _ _ _ hA12).2
  refine V.region X<|v_assign (v := u8) X X<|zx ?_
  refine APost.mk (own2 := [[(b1, .cells (List.toArray [v_]) 87)], o_]) (Le.refl _) st10 ?_
  intro tail15 w14 st13
  refine V.block<|V.region X<|v_load_b1 (st13.get (k := 0) X) X X Tryz.isAgg87 X<|v_move (v := u8) X X ?_
  refine zN (L := (LSl LInt)) (xs := [x]) (cs := [u8]) st13 (Enc.cons (L := (LSl LInt)) (vs := [u8]) (x := x) (h := h6) (⟨_, rfl, (hA _ _ _ _ hA12).1⟩) Enc.nil) rfl rfl rfl Tryz.underlying87 Tryz.info42 rfl rfl rfl (by obtain ⟨_, _, rfl⟩ := Sl.form (hA _ _ _ _ hA12).1; kernel_rfl) ?_
  intro v16 w17 h20 le21 f18 st19
  refine zZ (k := 1) (nb := 24) st19 (hi11.up le21) rfl f18 rfl rfl rfl Tryz.underlying87 Tryz.info42 rfl rfl rfl (by decide) rfl (by simp only [List.length_append, List.length_cons, List.length_nil]; omega) (by simp only [List.length_append, List.length_cons, List.length_nil]; omega) ?_
  intro v22 o23 w24 _ e25 f26 st27
  subst e25
  refine OpsL.store1 st27 (k := 0) X X (v := v22) X f26.one Tryz.sizeOf87 X X X ?_
  intro w28 st29
  refine zx<|BlkV.norm ?_
  refine RPost.norm (own3 := [[(b1, .cells (List.toArray [v22]) 87)], o23]) le21 st29 ⟨v22, o23, ?_, ?_⟩
  ·rfl
  ·exact OSl.to f26 rfl
 ·rintro D30 xs h31 w32 _ le33 hS34 ⟨v_, o_, rfl, hi35⟩ st36
  have hxe := hS34
  refine BlkV.norm<|ThenV.norm<|V.seq<|V.region X<|v_load_b1 (st36.get (k := 0) X) X X Tryz.isAgg87 X<|v_assign (v := v_) X X<|zx<|ThenV.norm<|V.ret<|PostV.one (own := [[(b1, .cells (List.toArray [v_]) 87)], o_]) st36 ?_
  intro w38 st37
  refine zb Tryz.results130 ?_
  obtain ⟨h39, le40, f41, st42⟩ := OSl.freeze (k := 1) st37 hi35 rfl (by rw [hxe]; omega)
  refine ⟨h39, _, rfl, st42.done, ?_⟩
  refine ⟨_, rfl, Sl.to f41 ?_⟩
  exact hS34
 ·intro _ _ _ _ _ _ _ hf_; exact hf_.elim
set_option maxRecDepth 4000 in
theorem c_slices_Collect_Lint {h : Heap} {w : World} (hs : Sub h w) {g : FuncId} {caps : List Value} {A : List (List Int) → Heap → Value → List Int → Prop} {T_ : List (List Int)} (eg : ∀ a w, (callFunc g a).run Tryz.prog w = .ok (.enter g a) w) (seq : GivesA Tryz.prog g caps A (fun xs => xs = T_) h) (hA : ∀ pre h u x, A pre h u x → Sl LInt h u x ∧ pre.length < 100000) (hT : T_.length ≤ 100000) : Calls Tryz.prog 85 #[.func (.func g) #[] caps.toArray] w (Rets h w (fun h' _ res_ => ∃ u0, res_ = u0 ∧ Sl (LSl LInt) h' u0 (T_))) := by
 refine zA (n := 5) (args := [.func (.func g) #[] caps.toArray]) Tryz.func85 X X X ?_
 have st0 : St h w h w [] := St.start hs
 refine W.sr<|v_asL X X<|Z<|W.sr<|v_move X X<|zi st0 X X X Tryz.call130 X (c_slices_AppendSeq_LLint_Lint st0.sub eg (seq.up (Le.refl _)) hA hT) ?_
 intro r1 w2 h3 le4 st5 q6
 obtain ⟨v7, e9, f8⟩ := q6
 rw [← e9] at f8
 have f8_b := f8.le
 refine v_assign (v := r1) X X<|Z<|zm<|zb Tryz.results85 ?_
 refine ⟨h3, _, rfl, st5.done, ?_⟩
 refine ⟨_, rfl, Sl.to f8 ?_⟩
 rfl
theorem gives_truths {h : Heap} {p_b : Nat} {p : Poll} {p_v0 : Value} (p_f0 : Sl LChapter h p_v0 p.text.chapters) {p_v1 : Value} (p_f1 : Sl LRule h p_v1 p.lexicon.rules) {p_v2 : Value} (p_f2 : Sl LDecision h p_v2 p.lexicon.decisions) {p_v3 : Value} (p_f3 : Sl LQuestion h p_v3 p.questions) {p_v4 : Value} (p_f4 : Sl LVoter h p_v4 p.voters) (p_c : Cells h p_b 0 [p_v0, p_v1, p_v2, p_v3, p_v4]) (hp : pollB p = true) : GivesA Tryz.prog 91 [.pointer (some ⟨p_b, 0, none⟩)] (fun pre_ h_ u_ x_ => Sl LInt h_ u_ x_ ∧ (truthsL p)[pre_.length]? = some x_) (fun xs => xs = truthsL p) h := by
 intro h0 w0 h1 l1 l J Jx hm hxm hY h2 w rest l2 hJ st
 exact c_vote_count_truths_1 (p := p) (p_f0.up (l1.trans l2)) (p_f1.up (l1.trans l2)) (p_f2.up (l1.trans l2)) (p_f3.up (l1.trans l2)) (p_f4.up (l1.trans l2)) (p_c.up (l1.trans l2)) hm hxm hJ (fun _ _ _ _ _ _ _ l3 a b c => hY _ _ _ _ _ _ _ (l2.trans l3) a b c) hp st
set_option maxRecDepth 4000 in
theorem c_vote_count_truths {h : Heap} {w : World} (hs : Sub h w) {p : Poll} {p_v0 : Value} (p_f0 : Sl LChapter h p_v0 p.text.chapters) {p_v1 : Value} (p_f1 : Sl LRule h p_v1 p.lexicon.rules) {p_v2 : Value} (p_f2 : Sl LDecision h p_v2 p.lexicon.decisions) {p_v3 : Value} (p_f3 : Sl LQuestion h p_v3 p.questions) {p_v4 : Value} (p_f4 : Sl LVoter h p_v4 p.voters) : Calls Tryz.prog 61 #[.agg #[p_v0, p_v1, p_v2, p_v3, p_v4]] w (fun e_ w' => ∃ h' bo, e_ = .returned (.func (.func 91) #[] #[.pointer (some ⟨bo, 0, none⟩)]) ∧ Le h h' ∧ St h w h' w' [] ∧ Cells h' bo 0 [p_v0, p_v1, p_v2, p_v3, p_v4]) := by
 refine zA (n := 4) (args := [.agg #[p_v0, p_v1, p_v2, p_v3, p_v4]]) Tryz.func61 X X X ?_
 have st0 : St h w h w [] := St.start hs
 have p_f0_b := p_f0.le
 have p_f1_b := p_f1.le
 have p_f2_b := p_f2.le
 have p_f3_b := p_f3.le
 have p_f4_b := p_f4.le
 refine W.sr<|zz st0 (cs := [p_v0, p_v1, p_v2, p_v3, p_v4]) X X X ?_
 intro b1 w2 h3 le4 hc5 st6
 refine v_assign X X<|Z<|W.sr<|v_make_func X X X<|zr X X (r_asF X)<|Z<|zm<|zb Tryz.results61 ?_
 exact ⟨h3, _, rfl, le4, st6, hc5⟩
set_option maxRecDepth 4000 in
theorem c_vote_open {h : Heap} {w : World} (hs : Sub h w) {p : Poll} {p_v0 : Value} (p_f0 : Sl LChapter h p_v0 p.text.chapters) {p_v1 : Value} (p_f1 : Sl LRule h p_v1 p.lexicon.rules) {p_v2 : Value} (p_f2 : Sl LDecision h p_v2 p.lexicon.decisions) {p_v3 : Value} (p_f3 : Sl LQuestion h p_v3 p.questions) {p_v4 : Value} (p_f4 : Sl LVoter h p_v4 p.voters) (K1 : Cells h 1 0 Tryz.glob1) (K0 : Cells h 0 0 Tryz.glob0) : Calls Tryz.prog 60 #[.agg #[p_v0, p_v1, p_v2, p_v3, p_v4]] w (Rets h w (fun h' _ res_ => ∃ u0 u1 u2 u3 u4, res_ = .tuple #[.agg #[u0, u1, u2, u3, u4], .int .i64 (checkP p)] ∧ Sl LChapter h' u0 (p).text.chapters ∧ Sl LRule h' u1 (p).lexicon.rules ∧ Sl LDecision h' u2 (p).lexicon.decisions ∧ Sl LQuestion h' u3 (p).questions ∧ Sl LVoter h' u4 (p).voters)) := by
 refine zA (n := 8) (args := [.agg #[p_v0, p_v1, p_v2, p_v3, p_v4]]) Tryz.func60 X X X ?_
 have st0 : St h w h w [] := St.start hs
 have p_f0_b := p_f0.le
 have p_f1_b := p_f1.le
 have p_f2_b := p_f2.le
 have p_f3_b := p_f3.le
 have p_f4_b := p_f4.le
 refine W.sr<|zz st0 (cs := [p_v0, p_v1, p_v2, p_v3, p_v4]) X X X ?_
 intro b1 w2 h3 le4 hc5 st6
 refine zI st6 Tryz.zeroValue112 X X ?_
 intro b7 w8 st9
 refine v_asI X X<|Z<|zj<|W.regionR (er := ([], [], [], [], 0)) (dsts := [4, 5, 6, 7, 3]) st9 Tryz.mixed<|zp 0 [] X t_kr t_kr X X (fun hD wD τD hL hS hO  => (zK (hL.sub hS) hc5 X Tryz.isAgg32 Tryz.sizeOf32 X)) ?_
 refine zp 1 [0] rfl t_kr t_kr rfl rfl (fun hD wD τD hL hS hO _ _ => (r_build (cs := [p_v0, p_v1, p_v2, p_v3, p_v4]) (by obtain ⟨_, _, rfl⟩ := Sl.form p_f0; obtain ⟨_, _, rfl⟩ := Sl.form p_f1; obtain ⟨_, _, rfl⟩ := Sl.form p_f2; obtain ⟨_, _, rfl⟩ := Sl.form p_f3; obtain ⟨_, _, rfl⟩ := Sl.form p_f4; kernel_rfl))) ?_
 refine zp 2 [] X t_kr t_kr X X (fun hD wD τD hL hS hO  => (zK (hL.sub hS) hc5 X Tryz.isAgg32 Tryz.sizeOf32 X)) ?_
 refine zH 3 (.det (.int .i64 (checkP (p)))) [0] rfl t_kr t_kr ?_ ?_
 ·
  intro hD wD τD hL hS hO _ _
  have st10 := St.start hS
  refine zi st10 X X X Tryz.call22 X (c_vote_Check st10.sub (p := p) (p_f0.up (le4.trans hL)) (p_f1.up (le4.trans hL)) (p_f2.up (le4.trans hL)) (p_f3.up (le4.trans hL)) (p_f4.up (le4.trans hL)) (K1.up (le4.trans hL)) (K0.up (le4.trans hL))) ?_
  intro r11 w12 h13 le14 st15 q16
  obtain rfl := q16
  exact zx ⟨_, _, rfl, st15, (), rfl, trivial⟩
 refine Drw.ch<|zp 5 [4, 3, 2, 1, 0] X t_kr t_kr X X (fun hD wD τD hL hS hO _ _ _ _ _ _ _ _ => (r_asI X))<|Drw.nil X X X X X X ⟨t_kr, X, t_kr, X, t_kr, X, X, t_kr, (cx_cons X cx_nil)⟩ ?_
 intro hE18 w19 _ le20 st21 _ _ _ _ _ _
 refine zC st21 (k := 0) X X X (zn p_f0.one (zn p_f1.one (zn p_f2.one (zn p_f3.one (zn p_f4.one zX))))) Tryz.sizeOf112 X X X ?_
 intro w22 st23
 obtain ⟨h24, le25, hb26, st28⟩ := st23.freeze (k := 0) rfl
 have hc27 := Cells.of hb26
 refine zx ⟨undef, rfl, _, _, le25, st28, ?_⟩
 intro hE29 w30 _ le31 st32 _ _ _ _ _ _ _ _ _ _
 refine AllDeps.fin X<|U<|zm<|Post.retcell2F Tryz.results60 X Tryz.isAgg112 Tryz.sizeOf112 X st32.sub (hc27.up le31) ?_
 refine ⟨hE29, _, rfl, st32.done, ?_⟩
 refine ⟨_, _, _, _, _, tup2 ?_ (zE ?_), Sl.to (p_f0.up (((le4.trans le20).trans le25).trans le31)) ?_, Sl.to (p_f1.up (((le4.trans le20).trans le25).trans le31)) ?_, Sl.to (p_f2.up (((le4.trans le20).trans le25).trans le31)) ?_, Sl.to (p_f3.up (((le4.trans le20).trans le25).trans le31)) ?_, Sl.to (p_f4.up (((le4.trans le20).trans le25).trans le31)) ?_⟩
 all_goals rfl
set_option maxRecDepth 4000 in
theorem c_vote_Count {h : Heap} {w : World} (hs : Sub h w) {p : Poll} {p_v0 : Value} (p_f0 : Sl LChapter h p_v0 p.text.chapters) {p_v1 : Value} (p_f1 : Sl LRule h p_v1 p.lexicon.rules) {p_v2 : Value} (p_f2 : Sl LDecision h p_v2 p.lexicon.decisions) {p_v3 : Value} (p_f3 : Sl LQuestion h p_v3 p.questions) {p_v4 : Value} (p_f4 : Sl LVoter h p_v4 p.voters) (K1 : Cells h 1 0 Tryz.glob1) (K0 : Cells h 0 0 Tryz.glob0) : Calls Tryz.prog 18 #[.agg #[p_v0, p_v1, p_v2, p_v3, p_v4]] w (Rets h w (fun _ _ res_ => res_ = .tuple #[.int .i64 ((if checkP p = 0 then ((truthsL p).length : Int) else 0)), .int .i64 (checkP p)])) := by
 refine V.calls (n := 21) (args := [.agg #[p_v0, p_v1, p_v2, p_v3, p_v4]]) Tryz.func18 X X X ?_
 have st0 : St h w h w [] := St.start hs
 have p_f0_b := p_f0.le
 have p_f1_b := p_f1.le
 have p_f2_b := p_f2.le
 have p_f3_b := p_f3.le
 have p_f4_b := p_f4.le
 refine V.seq<|V.region X<|zz st0 (cs := [p_v0, p_v1, p_v2, p_v3, p_v4]) X X X ?_
 intro b1 w2 h3 le4 hc5 st6
 refine v_asI X X<|v_asI X X<|zx<|ThenV.norm<|V.seq<|V.region X<|v_load_call st6.sub hc5 X Tryz.isAgg32 Tryz.sizeOf32 X X<|zi st6 X X X Tryz.call60 X (c_vote_open st6.sub (p := p) (p_f0.up le4) (p_f1.up le4) (p_f2.up le4) (p_f3.up le4) (p_f4.up le4) (K1.up le4) (K0.up le4)) ?_
 intro r7 w8 h9 le10 st11 q12
 obtain ⟨v13, v15, v17, v19, v21, rfl, f14, f16, f18, f20, f22⟩ := q12
 have f14_b := f14.le
 have f16_b := f16.le
 have f18_b := f18.le
 have f20_b := f20.le
 have f22_b := f22.le
 refine v_mvT X X<|v_extract (v := (.agg (List.toArray _))) X X X<|v_extract (v := (.int _ _)) X X X<|zI st11 Tryz.zeroValue112 X X ?_
 intro b23 w24 st25
 refine zC st25 (k := 0) X X X (zn f14.one (zn f16.one (zn f18.one (zn f20.one (zn f22.one zX))))) Tryz.sizeOf112 X X X ?_
 intro w26 st27
 obtain ⟨h28, le29, hb30, st32⟩ := st27.freeze (k := 0) rfl
 have hc31 := Cells.of hb30
 refine v_asI X X<|zx<|ThenV.norm<|V.seq<|V.seq<|V.region X<|v_mvI X X<|v_neq X X X<|zx<|ThenV.norm ?_
 refine V.cond rfl (fun c33 => ?_) (fun c33 => ?_)
 ·
  replace c33 := of_decide_eq_true c33
  refine V.seq<|V.region X<|v_mvI X X<|v_asI X X<|v_asI X X<|zx<|ThenV.norm<|V.ret<|ThenV.ret<|PostV.zero<|zU Tryz.results18 ?_
  refine ⟨h28, _, rfl, st32.done, ?_⟩
  refine tup2 (zE ?_) (zE ?_)
  all_goals simp_all
 ·
  replace c33 := of_decide_eq_false c33
  refine V.skip<|ThenV.norm<|V.seq ?_
  have hk1 : checkP p = 0 := by simpa using c33
  have hpb := (check_ok hk1).2
  have htl := truths_le hpb
  refine V.region X<|zI st32 Tryz.zeroValue3 X X ?_
  intro b34 w35 st36
  refine OpsL.store1 st36 (k := 1) X X X X Tryz.sizeOf3 X X X ?_
  intro w37 st38
  refine zx<|ThenV.norm<|V.seq<|V.seq<|V.region X<|v_load_call st38.sub hc31 X Tryz.isAgg112 Tryz.sizeOf112 X X ?_
  refine zV rfl rfl (zP rfl Tryz.call61 rfl) ((c_vote_count_truths st38.sub (p := (p)) (f14.up le29) (f16.up le29) (f18.up le29) (f20.up le29) (f22.up le29)).mono ?_)
  rintro _ w39 ⟨h40, bo41, rfl, le42, s43, hc44⟩
  refine ⟨_, rfl, ?_⟩
  have st45 := st38.call0 s43
  refine zx<|ThenV.norm<|V.block ?_
  have seq46 : GivesG Tryz.prog 91 [.pointer (some ⟨bo41, 0, none⟩)] (fun pre_ h_ us_ x_ => ∃ u_, us_ = [u_] ∧ (fun pre_ h_ u_ x_ => Sl LInt h_ u_ x_ ∧ (truthsL p)[pre_.length]? = some x_) pre_ h_ u_ x_) (fun xs_ => xs_ = truthsL p) h w h40 := by
   intro l_ J_ Jx_ hm_ hxm_ hY_ h1_ w1_ rest_ le_ hJ_ st_
   exact c_vote_count_truths_1 (p := p) ((f14.up (le29.trans le42)).up le_) ((f16.up (le29.trans le42)).up le_) ((f18.up (le29.trans le42)).up le_) ((f20.up (le29.trans le42)).up le_) ((f22.up (le29.trans le42)).up le_) (hc44.up le_) hm_ hxm_ hJ_ (fun _ _ _ _ _ _ _ l2_ a_ b_ c_ => hY_ _ _ _ _ _ _ _ (le_.trans l2_) a_ b_ c_) (by exact hpb) st_
  refine V.rangeFuncP (I := fun xs _ own_ => own_ = [[], [(b34, .cells (List.toArray [.int .i64 (xs.length : Int)]) 3)]] ∧ xs.length ≤ xs.length) (Ix := fun _ _ _ _ => False) st45 rfl Tryz.call91 rfl seq46 (by rintro _ _ _ _ h_ _; exact h_) (by intro _ _ _ _ _ h_ _; exact h_) ⟨rfl, by exact Nat.le_refl _⟩ ?_ ?_ ?_
  ·rintro l_ pre x h47 w48 _ tail u49 le50 ⟨rfl, hi52⟩ st51 hA53
   have hxl := (List.getElem?_eq_some_iff.1 (hA53).2).1
   refine V.skip ?_
   refine APost.mk (own2 := [[], [(b34, .cells (List.toArray [.int .i64 (pre.length : Int)]) 3)]]) (Le.refl _) st51 ?_
   intro tail56 w55 st54
   refine V.block<|V.region X<|v_load_b1 (st54.get (k := 1) X) X X Tryz.isAgg3 X<|v_add X X t_om X<|OpsL.store1 st54 (k := 1) X X X X Tryz.sizeOf3 X X X ?_
   intro w57 st58
   refine zx<|BlkV.norm ?_
   refine RPost.norm (own3 := [[], [(b34, .cells (List.toArray [.int .i64 ((pre.length : Int) + 1)]) 3)]]) (Le.refl _) st58 ⟨?_, ?_⟩
   ·simp
   ·exact Nat.le_refl _
  ·rintro D59 xs h60 w61 _ le62 hS63 ⟨rfl, hi64⟩ st65
   have hxe := hS63
   refine BlkV.norm<|ThenV.norm<|V.seq<|V.region X<|v_load_b1 (st65.get (k := 1) X) X X Tryz.isAgg3 X<|v_asI X X<|v_asI X X<|zx<|ThenV.norm<|V.ret<|PostV.one (own := [[], [(b34, .cells (List.toArray [.int .i64 (xs.length : Int)]) 3)]]) st65 ?_
   intro w67 st66
   refine zU Tryz.results18 ?_
   refine ⟨h60, _, rfl, st66.done, ?_⟩
   refine tup2 (zE ?_) (zE ?_)
   all_goals simp_all
  ·intro _ _ _ _ _ _ _ hf_; exact hf_.elim
set_option maxRecDepth 4000 in
theorem c_vote_all {h : Heap} {w : World} (hs : Sub h w) {p : Poll} {p_v0 : Value} (p_f0 : Sl LChapter h p_v0 p.text.chapters) {p_v1 : Value} (p_f1 : Sl LRule h p_v1 p.lexicon.rules) {p_v2 : Value} (p_f2 : Sl LDecision h p_v2 p.lexicon.decisions) {p_v3 : Value} (p_f3 : Sl LQuestion h p_v3 p.questions) {p_v4 : Value} (p_f4 : Sl LVoter h p_v4 p.voters) (so : Bool) (K1 : Cells h 1 0 Tryz.glob1) (K0 : Cells h 0 0 Tryz.glob0) : Calls Tryz.prog 38 #[.agg #[p_v0, p_v1, p_v2, p_v3, p_v4], .bool so] w (Rets h w (fun h' _ res_ => ∃ u0, res_ = .tuple #[u0, .int .i64 (allE p so)] ∧ Sl (LSl LInt) h' u0 ((allL p so)))) := by
 refine zA (n := 26) (args := [.agg #[p_v0, p_v1, p_v2, p_v3, p_v4], .bool so]) Tryz.func38 X X X ?_
 have st0 : St h w h w [] := St.start hs
 have p_f0_b := p_f0.le
 have p_f1_b := p_f1.le
 have p_f2_b := p_f2.le
 have p_f3_b := p_f3.le
 have p_f4_b := p_f4.le
 refine W.sr<|zz st0 (cs := [p_v0, p_v1, p_v2, p_v3, p_v4]) X X X ?_
 intro b1 w2 h3 le4 hc5 st6
 refine v_asL X X<|v_asI X X<|Z<|W.sr<|v_load_call st6.sub hc5 X Tryz.isAgg32 Tryz.sizeOf32 X X<|zi st6 X X X Tryz.call60 X (c_vote_open st6.sub (p := p) (p_f0.up le4) (p_f1.up le4) (p_f2.up le4) (p_f3.up le4) (p_f4.up le4) (K1.up le4) (K0.up le4)) ?_
 intro r7 w8 h9 le10 st11 q12
 obtain ⟨v13, v15, v17, v19, v21, rfl, f14, f16, f18, f20, f22⟩ := q12
 have f14_b := f14.le
 have f16_b := f16.le
 have f18_b := f18.le
 have f20_b := f20.le
 have f22_b := f22.le
 refine v_mvT X X<|v_extract (v := (.agg (List.toArray _))) X X X<|v_extract (v := (.int _ _)) X X X<|zI st11 Tryz.zeroValue112 X X ?_
 intro b23 w24 st25
 refine zC st25 (k := 0) X X X (zn f14.one (zn f16.one (zn f18.one (zn f20.one (zn f22.one zX))))) Tryz.sizeOf112 X X X ?_
 intro w26 st27
 obtain ⟨h28, le29, hb30, st32⟩ := st27.freeze (k := 0) rfl
 have hc31 := Cells.of hb30
 refine v_asI X X<|Z<|zj<|W.sr<|v_mvI X X<|v_neq X X X<|Z ?_
 refine zk rfl (fun c33 => ?_) (fun c33 => ?_)
 ·
  replace c33 := of_decide_eq_true c33
  refine W.sr<|v_mvI X X<|v_asL X X<|v_asI X X<|Z<|zm<|za<|zU Tryz.results38 ?_
  refine ⟨h28, _, rfl, st32.done, ?_⟩
  refine ⟨_, tup2 rfl (zE ?_), Sl.to (Sl.nil _ _) ?_⟩
  all_goals simp_all [allL, allE]
 ·
  replace c33 := of_decide_eq_false c33
  refine zq<|U<|zj<|W.sr<|v_mvB X X<|v_not X X<|Z ?_
  refine zk rfl (fun c34 => ?_) (fun c34 => ?_)
  ·
   refine W.sr<|v_asL X X<|v_asI X X<|Z<|zm<|za<|zU Tryz.results38 ?_
   refine ⟨h28, _, rfl, st32.done, ?_⟩
   refine ⟨_, tup2 rfl (zE ?_), Sl.to (Sl.nil _ _) ?_⟩
   all_goals simp_all [allL, allE]
  ·
   refine zq<|U<|zj ?_
   have hk1 : checkP p = 0 := by simpa using c33
   have hpb := (check_ok hk1).2
   have htl := truths_le hpb
   refine zo<|v_load_call st32.sub hc31 X Tryz.isAgg112 Tryz.sizeOf112 X X ?_
   refine zV rfl rfl (zP rfl Tryz.call61 rfl) ((c_vote_count_truths st32.sub (p := (p)) (f14.up le29) (f16.up le29) (f18.up le29) (f20.up le29) (f22.up le29)).mono ?_)
   rintro _ w35 ⟨h36, bo37, rfl, le38, s39, hc40⟩
   refine ⟨_, rfl, ?_⟩
   have st41 := st32.call0 s39
   refine zi st41 rfl rfl rfl Tryz.call85 rfl (c_slices_Collect_Lint st41.sub Tryz.call91 (gives_truths (p := p) (f14.up (le29.trans le38)) (f16.up (le29.trans le38)) (f18.up (le29.trans le38)) (f20.up (le29.trans le38)) (f22.up (le29.trans le38)) hc40 hpb) (fun _ _ _ _ q_ => ⟨q_.1, by have q2_ := (List.getElem?_eq_some_iff.1 q_.2).1; omega⟩) (by omega)) ?_
   intro r42 w43 h44 le45 st46 q47
   obtain ⟨v48, e50, f49⟩ := q47
   rw [← e50] at f49
   have f49_b := f49.le
   refine v_assign (v := r42) X X<|Z<|zj<|W.sr<|v_move (v := r42) X X<|v_len f49 X Tryz.underlying87 X<|v_eql X X X<|Z ?_
   refine zk rfl (fun c51 => ?_) (fun c51 => ?_)
   ·
    replace c51 := of_decide_eq_true c51
    refine W.sr<|v_asL X X<|v_asI X X<|Z<|zm<|za<|zU Tryz.results38 ?_
    refine ⟨h44, _, rfl, st46.done, ?_⟩
    refine ⟨_, tup2 rfl (zE ?_), Sl.to (Sl.nil _ _) ?_⟩
    all_goals simp_all [allL, allE]
   ·
    replace c51 := of_decide_eq_false c51
    refine zq<|U<|W.sr<|v_move (v := r42) X X<|v_assign (v := r42) X X<|v_asI X X<|Z<|zm<|zU Tryz.results38 ?_
    refine ⟨h44, _, rfl, st46.done, ?_⟩
    refine ⟨_, tup2 rfl (zE ?_), Sl.to f49 ?_⟩
    all_goals simp_all [allL, allE]
end Go.Pk

namespace Go.Pk
open Go Go.RowKit Go.Proofs
set_option maxRecDepth 4000 in
theorem c_vote_Truth {h : Heap} {w : World} (hs : Sub h w) {p : Poll} {p_v0 : Value} (p_f0 : Sl LChapter h p_v0 p.text.chapters) {p_v1 : Value} (p_f1 : Sl LRule h p_v1 p.lexicon.rules) {p_v2 : Value} (p_f2 : Sl LDecision h p_v2 p.lexicon.decisions) {p_v3 : Value} (p_f3 : Sl LQuestion h p_v3 p.questions) {p_v4 : Value} (p_f4 : Sl LVoter h p_v4 p.voters) (K1 : Cells h 1 0 Tryz.glob1) (K0 : Cells h 0 0 Tryz.glob0) : Calls Tryz.prog 20 #[.agg #[p_v0, p_v1, p_v2, p_v3, p_v4]] w (Rets h w (fun h' _ res_ => ∃ u0, res_ = .tuple #[u0, .int .i64 (allE p true)] ∧ Sl LInt h' u0 ((((allL p true)[0]?).getD [])))) := by
 refine zA (n := 17) (args := [.agg #[p_v0, p_v1, p_v2, p_v3, p_v4]]) Tryz.func20 X X X ?_
 have st0 : St h w h w [] := St.start hs
 have p_f0_b := p_f0.le
 have p_f1_b := p_f1.le
 have p_f2_b := p_f2.le
 have p_f3_b := p_f3.le
 have p_f4_b := p_f4.le
 refine W.sr<|zz st0 (cs := [p_v0, p_v1, p_v2, p_v3, p_v4]) X X X ?_
 intro b1 w2 h3 le4 hc5 st6
 refine v_asL X X<|v_asI X X<|Z<|W.sr<|v_load_call st6.sub hc5 X Tryz.isAgg32 Tryz.sizeOf32 X X<|zi st6 X X X Tryz.call38 X (c_vote_all st6.sub (p := p) (p_f0.up le4) (p_f1.up le4) (p_f2.up le4) (p_f3.up le4) (p_f4.up le4) _ (K1.up le4) (K0.up le4)) ?_
 intro r7 w8 h9 le10 st11 q12
 obtain ⟨v13, rfl, f14⟩ := q12
 have f14_b := f14.le
 refine v_mvT X X<|v_extract (v := v13) X X X<|v_extract (v := (.int _ _)) X X X<|v_assign (v := v13) X X<|v_asI X X<|Z<|zj<|W.sr<|v_mvI X X<|v_neq X X X<|Z ?_
 refine zk rfl (fun c15 => ?_) (fun c15 => ?_)
 ·
  replace c15 := of_decide_eq_true c15
  refine W.sr<|v_mvI X X<|v_asL X X<|v_asI X X<|Z<|zm<|za<|zU Tryz.results20 ?_
  refine ⟨h9, _, rfl, st11.done, ?_⟩
  refine ⟨_, tup2 rfl (zE ?_), Sl.to (Sl.nil _ _) ?_⟩
  all_goals simp_all [allL]
 ·
  replace c15 := of_decide_eq_false c15
  refine zq<|U<|zj ?_
  have hz0 : allE p true = 0 := by simpa using c15
  obtain ⟨hk1, hk2, hk3, hk4⟩ := all_ok hz0
  have hk5 := List.length_pos_iff.2 hk3
  have hk6 : (allL p true).length = (truthsL p).length := by rw [hk4]
  have hk7 := truths_le (check_ok hk1).2
  have hk8 := poll_len (check_ok hk1).2
  refine zo<|v_move (v := v13) X X ?_
  have ha : ∃ y_, ((allL (p) (true)))[0]? = some y_ := ⟨_, List.getElem?_eq_getElem (by omega)⟩
  obtain ⟨a, ha⟩ := ha
  obtain ⟨b16, o17, _, he19, hc18, hr_a⟩ := Sl.elem f14 ha
  obtain ⟨v20, rfl, f21⟩ := hr_a
  have f21_b := f21.le
  refine v_index_el he19 X X (hk := X) (hu := Tryz.underlying87) (hz := Tryz.sizeOf42) X<|v_load_cells1 (j := 0) st11.sub hc18 X X X Tryz.isAgg42 X<|v_assign (v := v20) X X<|v_asI X X<|Z<|zm<|zU Tryz.results20 ?_
  refine ⟨h9, _, rfl, st11.done, ?_⟩
  refine ⟨_, tup2 rfl (zE ?_), Sl.to f21 ?_⟩
  all_goals simp_all [allL]
set_option maxRecDepth 4000 in
theorem c_vote_settled {h : Heap} {w : World} (hs : Sub h w) {ts_v : Value} {ts : (List (List Int))} (ts_f : Sl (LSl LInt) h ts_v ts) {p_ : Nat} (hn : 0 < ts.length) (hl : ∀ t ∈ ts, t.length = p_) (hq : p_ ≤ 6) : Calls Tryz.prog 72 #[ts_v] w (Rets h w (fun h' _ res_ => ∃ u0, res_ = u0 ∧ Sl LInt h' u0 ((setL7 ts)))) := by
 refine zA (n := 39) (args := [ts_v]) Tryz.func72 X X X ?_
 have st0 : St h w h w [] := St.start hs
 have ts_f_b := ts_f.le
 refine W.sr<|v_asL X X<|Z<|zj ?_
 obtain ⟨a0, ha0⟩ : ∃ y, (ts)[0]? = some y := ⟨_, List.getElem?_eq_getElem (by omega)⟩
 refine zo ?_
 have hla0 := hl a0 (List.mem_of_getElem? ha0)
 refine v_move (v := ts_v) X X ?_
 obtain ⟨b1, o2, _, he4, hc3, hr_a0⟩ := Sl.elem ts_f ha0
 obtain ⟨v5, rfl, f6⟩ := hr_a0
 have f6_b := f6.le
 refine v_index_el he4 X X (hk := X) (hu := Tryz.underlying87) (hz := Tryz.sizeOf42) X<|v_load_cells1 (j := 0) st0.sub hc3 X X X Tryz.isAgg42 X ?_
 refine zV rfl rfl (zP rfl Tryz.call93 rfl) ((c_slices_Clone_Lint_int st0.sub f6 (by have q2 := hl a0 (List.mem_of_getElem? ha0); omega)).mono ?_)
 rintro _ w8 ⟨h9, v7, o12, rfl, le10, s14, f13⟩
 refine ⟨_, rfl, ?_⟩
 have st11 := st0.call s14
 refine v_assign (v := v7) X X<|Z<|zj<|W.sr<|v_move (v := ts_v) X X<|v_len (ts_f.up le10) X Tryz.underlying87 X<|v_mvI X X<|Z<|zt ?_
 refine zJ [5, 6, 7, 14, 15, 16, 17, 18, 19, 20, 21, 22, 23, 24, 25, 26, 27, 28, 29, 30, 31, 32, 33, 34, 35, 36, 37] (G := Nat × List (Nat × Obj) × Heap) (fun ⟨i, o_3, h15⟩ => [(14, .int .i64 (i : Int))]) (fun ⟨i, o_3, h15⟩ w' => Le h9 h15 ∧ St h w h15 w' [o_3] ∧ (OSl LInt 3 h15 v7 ((setK (ts.take i) a0)) o_3) ∧ (i ≤ ts.length)) (fun ⟨i, o_3, h15⟩ => ts.length - i) ⟨0, o12, h9⟩ ⟨rfl, trivial⟩ ⟨Le.refl _, st11, (OSl.to f13 (by (rw [setK_nil]))), zO⟩ ?_
 rintro ⟨i, o_3, h15⟩ _ w18 ⟨le16, st17, hO_3, hi⟩
 refine W.sr<|v_lss X X X<|Z<|zj ?_
 refine zk rfl (fun c19 => ?_) (fun c19 => ?_)
 ·
  replace c19 := of_decide_eq_true c19
  refine zq<|U<|zj<|zt<|W.sr ?_
  have ht : ∃ y_, (ts)[i]? = some y_ := ⟨_, List.getElem?_eq_getElem (by omega)⟩
  obtain ⟨t, ht⟩ := ht
  obtain ⟨b20, o21, _, he23, hc22, hr_t⟩ := Sl.elem (ts_f.up (le10.trans le16)) ht
  obtain ⟨v24, rfl, f25⟩ := hr_t
  have f25_b := f25.le
  refine v_index_el he23 X X (hk := X) (hu := Tryz.underlying87) (hz := Tryz.sizeOf42) X<|v_load_cells1 (j := 0) st17.sub hc22 X X X Tryz.isAgg42 X<|v_assign (v := v24) X X<|Z<|W.sr<|v_move (v := v24) X X<|v_len f25 X Tryz.underlying42 X<|v_mvI X X<|Z<|zt ?_
  refine zJ [6, 7, 20, 21, 22, 23, 24, 25, 26, 27, 28, 29, 30, 31, 32, 33, 34, 35, 36] (G := Nat × List (Nat × Obj) × Heap) (fun ⟨k, o_3, h26⟩ => [(20, .int .i64 (k : Int))]) (fun ⟨k, o_3, h26⟩ w' => Le h15 h26 ∧ St h w h26 w' [o_3] ∧ (OSl LInt 3 h26 v7 ((setM ts a0 i k)) o_3) ∧ (k ≤ t.length)) (fun ⟨k, o_3, h26⟩ => t.length - k) ⟨0, o_3, h15⟩ ⟨rfl, trivial⟩ ⟨Le.refl _, st17, (OSl.to hO_3 (by exact (setM_zero _ _ _).symm)), zO⟩ ?_
  rintro ⟨k, o_3, h26⟩ _ w29 ⟨le27, st28, hO_3, hk⟩
  have hml := setM_len ts a0 i k
  refine W.sr<|v_lss X X X<|Z<|zj ?_
  refine zk rfl (fun c30 => ?_) (fun c30 => ?_)
  ·
   replace c30 := of_decide_eq_true c30
   refine zq<|U<|zj<|zt<|W.sr<|v_mvI X X ?_
   have hx : ∃ y_, (t)[k]? = some y_ := ⟨_, List.getElem?_eq_getElem (by omega)⟩
   obtain ⟨x, hx⟩ := hx
   obtain ⟨b31, o32, _, he34, hc33, hr_x⟩ := Sl.elem (f25.up le27) hx
   obtain rfl := hr_x
   refine v_index_el he34 X X (hk := X) (hu := Tryz.underlying42) (hz := Tryz.sizeOf3) X<|v_load_cells1 (j := 0) st28.sub hc33 X X X Tryz.isAgg3 X<|v_asI X X<|v_asI X X<|Z<|W.sr<|v_mvI X X<|v_move (v := ts_v) X X<|v_index_el he4 X X (hk := X) (hu := Tryz.underlying87) (hz := Tryz.sizeOf42) X<|v_load_cells1 (j := 0) st28.sub (hc3.up ((le10.trans le16).trans le27)) X X X Tryz.isAgg42 X<|v_mvI X X ?_
   have hy : ∃ y_, (a0)[k]? = some y_ := ⟨_, List.getElem?_eq_getElem (by have q1 := hl t (List.mem_of_getElem? ht); have q2 := hl a0 (List.mem_of_getElem? ha0); omega)⟩
   obtain ⟨y, hy⟩ := hy
   obtain ⟨b35, o36, _, he38, hc37, hr_y⟩ := Sl.elem (f6.up ((le10.trans le16).trans le27)) hy
   obtain rfl := hr_y
   refine v_index_el he38 X X (hk := X) (hu := Tryz.underlying42) (hz := Tryz.sizeOf3) X<|v_load_cells1 (j := 0) st28.sub hc37 X X X Tryz.isAgg3 X<|v_neq X X X<|Z ?_
   refine zk rfl (fun c39 => ?_) (fun c39 => ?_)
   ·
    replace c39 := of_decide_eq_true c39
    refine zo<|v_move (v := v7) X X<|v_mvI X X ?_
    have hy40 : ∃ y_, ((setM ts a0 i k))[k]? = some y_ := ⟨_, List.getElem?_eq_getElem (by rw [setM_len]; have q1 := hl t (List.mem_of_getElem? ht); have q2 := hl a0 (List.mem_of_getElem? ha0); omega)⟩
    obtain ⟨y40, hy40⟩ := hy40
    obtain ⟨b41, o42, cur43, _, e46, he44, hr_y40, hc45⟩ := OSl.elem hO_3 hy40
    subst e46
    obtain rfl := hr_y40
    refine v_index_el he44 X X (hk := X) (hu := Tryz.underlying42) (hz := Tryz.sizeOf3) X ?_
    refine OpsL.storeEl1 (k := 0) st28 hO_3 rfl (by rw [setM_len]; have q1 := hl t (List.mem_of_getElem? ht); have q2 := hl a0 (List.mem_of_getElem? ha0); omega) he44 rfl rfl (rfl) Tryz.sizeOf3 ?_
    intro o47 w48 _ e49 f50 st51
    subst e49
    refine zx<|zy<|U<|zo<|v_add X X t_om X<|v_mvI X X<|Z ?_
    refine ⟨⟨k + 1, o47, h26⟩, ⟨rfl, trivial⟩, ?_, ⟨le27, st51, ?_, ?_⟩, ?_⟩
    ·exact zL
    ·refine OSl.to f50 ?_
     exact (setM_else ht hy hx c39).symm
    ·first | omega | (simp; omega)
    ·show t.length - ((k + 1)) < t.length - k
     omega
   ·
    replace c39 := of_decide_eq_false c39
    refine zq<|zy<|U<|zo<|v_add X X t_om X<|v_mvI X X<|Z ?_
    refine ⟨⟨k + 1, o_3, h26⟩, ⟨rfl, trivial⟩, ?_, ⟨le27, st28, ?_, ?_⟩, ?_⟩
    ·exact zL
    ·refine OSl.to hO_3 ?_
     exact (setM_same ht hy hx (by simpa using c39)).symm
    ·first | omega | (simp; omega)
    ·show t.length - ((k + 1)) < t.length - k
     omega
  ·
   replace c30 := of_decide_eq_false c30
   refine zM<|zh<|zh<|zF<|zy<|U<|zo<|v_add X X t_om X<|v_mvI X X<|Z ?_
   refine ⟨⟨i + 1, o_3, h26⟩, ⟨rfl, trivial⟩, ?_, ⟨(le16.trans le27), st28, ?_, ?_⟩, ?_⟩
   ·exact zL
   ·refine OSl.to hO_3 ?_
    exact setM_end (by have q1 := hl t (List.mem_of_getElem? ht); omega)
   ·first | omega | (simp; omega)
   ·show ts.length - ((i + 1)) < ts.length - i
    omega
 ·
  replace c19 := of_decide_eq_false c19
  refine zM<|zh<|zh<|zF<|U<|W.sr<|v_move (v := v7) X X<|v_assign (v := v7) X X<|Z<|zm<|zb Tryz.results72 ?_
  obtain ⟨h52, le53, f54, st55⟩ := OSl.freeze (k := 0) st17 hO_3 rfl (by rw [setK_len]; omega)
  refine ⟨h52, _, rfl, st55.done, ?_⟩
  refine ⟨_, rfl, Sl.to f54 ?_⟩
  rw [setL7, ha0, List.take_of_length_le (by omega)]
set_option maxRecDepth 4000 in
theorem c_vote_Settled {h : Heap} {w : World} (hs : Sub h w) {p : Poll} {p_v0 : Value} (p_f0 : Sl LChapter h p_v0 p.text.chapters) {p_v1 : Value} (p_f1 : Sl LRule h p_v1 p.lexicon.rules) {p_v2 : Value} (p_f2 : Sl LDecision h p_v2 p.lexicon.decisions) {p_v3 : Value} (p_f3 : Sl LQuestion h p_v3 p.questions) {p_v4 : Value} (p_f4 : Sl LVoter h p_v4 p.voters) (K1 : Cells h 1 0 Tryz.glob1) (K0 : Cells h 0 0 Tryz.glob0) : Calls Tryz.prog 26 #[.agg #[p_v0, p_v1, p_v2, p_v3, p_v4]] w (Rets h w (fun h' _ res_ => ∃ u0, res_ = .tuple #[u0, .int .i64 (allE p true)] ∧ Sl LInt h' u0 ((settledR p)))) := by
 refine zA (n := 16) (args := [.agg #[p_v0, p_v1, p_v2, p_v3, p_v4]]) Tryz.func26 X X X ?_
 have st0 : St h w h w [] := St.start hs
 have p_f0_b := p_f0.le
 have p_f1_b := p_f1.le
 have p_f2_b := p_f2.le
 have p_f3_b := p_f3.le
 have p_f4_b := p_f4.le
 refine W.sr<|zz st0 (cs := [p_v0, p_v1, p_v2, p_v3, p_v4]) X X X ?_
 intro b1 w2 h3 le4 hc5 st6
 refine v_asL X X<|v_asI X X<|Z<|W.sr<|v_load_call st6.sub hc5 X Tryz.isAgg32 Tryz.sizeOf32 X X<|zi st6 X X X Tryz.call38 X (c_vote_all st6.sub (p := p) (p_f0.up le4) (p_f1.up le4) (p_f2.up le4) (p_f3.up le4) (p_f4.up le4) _ (K1.up le4) (K0.up le4)) ?_
 intro r7 w8 h9 le10 st11 q12
 obtain ⟨v13, rfl, f14⟩ := q12
 have f14_b := f14.le
 refine v_mvT X X<|v_extract (v := v13) X X X<|v_extract (v := (.int _ _)) X X X<|v_assign (v := v13) X X<|v_asI X X<|Z<|zj<|W.sr<|v_mvI X X<|v_neq X X X<|Z ?_
 refine zk rfl (fun c15 => ?_) (fun c15 => ?_)
 ·
  replace c15 := of_decide_eq_true c15
  refine W.sr<|v_mvI X X<|v_asL X X<|v_asI X X<|Z<|zm<|za<|zU Tryz.results26 ?_
  refine ⟨h9, _, rfl, st11.done, ?_⟩
  refine ⟨_, tup2 rfl (zE ?_), Sl.to (Sl.nil _ _) ?_⟩
  all_goals first | (rw [settledR, if_pos hz0, hk4]; done) | (simp_all [settledR]; done)
 ·
  replace c15 := of_decide_eq_false c15
  refine zq<|U<|zj ?_
  have hz0 : allE p true = 0 := by simpa using c15
  obtain ⟨hk1, hk2, hk3, hk4⟩ := all_ok hz0
  have hk5 := List.length_pos_iff.2 hk3
  have hk6 : (allL p true).length = (truthsL p).length := by rw [hk4]
  have hk7 := truths_le (check_ok hk1).2
  have hk8 := poll_len (check_ok hk1).2
  refine zo<|v_move (v := v13) X X ?_
  refine zi st11 rfl rfl rfl Tryz.call72 rfl (c_vote_settled st11.sub f14 (by omega) (by intro t ht_; rw [hk4] at ht_; exact truth_len ht_) (by omega)) ?_
  intro r16 w17 h18 le19 st20 q21
  obtain ⟨v22, e24, f23⟩ := q21
  rw [← e24] at f23
  have f23_b := f23.le
  refine v_assign (v := r16) X X<|v_asI X X<|Z<|zm<|zU Tryz.results26 ?_
  refine ⟨h18, _, rfl, st20.done, ?_⟩
  refine ⟨_, tup2 rfl (zE ?_), Sl.to f23 ?_⟩
  all_goals first | (rw [settledR, if_pos hz0, hk4]; done) | (simp_all [settledR]; done)
set_option maxRecDepth 4000 in
theorem c_vote_Open {h : Heap} {w : World} (hs : Sub h w) {p : Poll} {p_v0 : Value} (p_f0 : Sl LChapter h p_v0 p.text.chapters) {p_v1 : Value} (p_f1 : Sl LRule h p_v1 p.lexicon.rules) {p_v2 : Value} (p_f2 : Sl LDecision h p_v2 p.lexicon.decisions) {p_v3 : Value} (p_f3 : Sl LQuestion h p_v3 p.questions) {p_v4 : Value} (p_f4 : Sl LVoter h p_v4 p.voters) (question : Int) (K1 : Cells h 1 0 Tryz.glob1) (K0 : Cells h 0 0 Tryz.glob0) : Calls Tryz.prog 24 #[.agg #[p_v0, p_v1, p_v2, p_v3, p_v4], .int .i64 question] w (Rets h w (fun h' _ res_ => ∃ u0, res_ = .tuple #[u0, .int .i64 (allE p (inB question 0 ((p.questions.length : Int) - 1)))] ∧ Sl LInt h' u0 ((openR p question)))) := by
 refine zA (n := 44) (args := [.agg #[p_v0, p_v1, p_v2, p_v3, p_v4], .int .i64 question]) Tryz.func24 X X X ?_
 have st0 : St h w h w [] := St.start hs
 have p_f0_b := p_f0.le
 have p_f1_b := p_f1.le
 have p_f2_b := p_f2.le
 have p_f3_b := p_f3.le
 have p_f4_b := p_f4.le
 refine W.sr<|zz st0 (cs := [p_v0, p_v1, p_v2, p_v3, p_v4]) X X X ?_
 intro b1 w2 h3 le4 hc5 st6
 refine v_asL X X<|v_asI X X<|Z<|zj<|W.regionR (er := ([], [], [], [], 0)) (dsts := [12, 13, 14, 15, 16, 17, 18, 19, 20, 11, 21, 22, 6, 7]) st6 Tryz.mixed<|zp 0 [] X t_kr t_kr X X (fun hD wD τD hL hS hO  => (zK (hL.sub hS) hc5 X Tryz.isAgg32 Tryz.sizeOf32 X))<|zp 1 [] X t_kr t_kr X X (fun hD wD τD hL hS hO  => (zB X Tryz.underlying32 X Tryz.sizeOf29 X))<|zp 2 [0] X t_kr t_kr X X (fun hD wD τD hL hS hO _ _ => (zc (j := 3) (hL.sub hS) hc5 X X X Tryz.isAgg29))<|zp 3 [0] X t_kr t_kr X X (fun hD wD τD hL hS hO _ _ => (r_len (p_f3.up le4) X Tryz.underlying29))<|zp 4 [0] X t_kr t_kr X X (fun hD wD τD hL hS hO _ _ => (r_sub X X t_om))<|zp 5 [] X t_kr t_kr X X (fun hD wD τD hL hS hO  => (r_mvI X)) ?_
 refine zH 6 (.res (fun h' res_ => Sl LInt h' res_ ([question])) (fun _ _ _ hl f => f.up hl)) [0] rfl t_kr t_kr ?_ ?_
 ·
  intro hD wD τD hL hS hO _ _
  have st7 := St.start hS
  refine zN (L := LInt) (xs := [question]) (cs := [.int .i64 question]) st7 (Enc.cons (L := LInt) (vs := [.int .i64 question]) (x := question) (h := hD) (X) Enc.nil) X X X Tryz.underlying42 Tryz.info3 X X X t_kr ?_
  intro v8 w9 h12 le13 f10 st11
  exact zx ⟨_, _, rfl, st11, _, rfl, f10⟩
 refine zH 7 (.det (.bool ((inB question 0 ((p.questions.length : Int) - 1))))) [2, 0] rfl t_kr t_kr ?_ ?_
 ·
  intro hD wD τD hL hS hO _ _ gv6_0 gf6_0
  have st14 := St.start hS
  have con := (c_vote_in st14.sub (lo := 0) (hi := ((p.questions.length : Int) - 1)) gf6_0)
  rw [inAll_one] at con
  refine zi st14 X X X Tryz.call39 X con ?_
  intro r15 w16 h17 le18 st19 q20
  obtain rfl := q20
  clear con
  exact zx ⟨_, _, rfl, st19, (), rfl, trivial⟩
 refine zH 8 (.res (fun h' res_ => ∃ gv8_0, res_ = .tuple #[gv8_0, .int .i64 (allE (p) (((inB question 0 ((p.questions.length : Int) - 1)))))] ∧ Sl (LSl LInt) h' gv8_0 ((allL (p) (((inB question 0 ((p.questions.length : Int) - 1))))))) (by rintro _ _ _ hl ⟨gv8_0, e_, gf8_0⟩; exact ⟨gv8_0, e_, gf8_0.up hl⟩)) [7, 0] rfl t_kr t_kr ?_ ?_
 ·
  intro hD wD τD hL hS hO _ _ _ _
  have st21 := St.start hS
  refine zi st21 X X X Tryz.call38 X (c_vote_all st21.sub (p := p) (p_f0.up (le4.trans hL)) (p_f1.up (le4.trans hL)) (p_f2.up (le4.trans hL)) (p_f3.up (le4.trans hL)) (p_f4.up (le4.trans hL)) _ (K1.up (le4.trans hL)) (K0.up (le4.trans hL))) ?_
  intro r22 w23 h24 le25 st26 q27
  obtain ⟨v28, rfl, f29⟩ := q27
  have f29_b := f29.le
  exact zx ⟨_, _, rfl, st26, _, rfl, ⟨_, rfl, f29⟩⟩
 refine zH 9 (.res (fun h' res_ => ∃ gv9_0, res_ = .tuple #[gv9_0, .int .i64 ((allE (p) (((inB question 0 ((p.questions.length : Int) - 1))))))] ∧ Sl (LSl LInt) h' gv9_0 (((allL (p) (((inB question 0 ((p.questions.length : Int) - 1)))))))) (by rintro _ _ _ hl ⟨gv9_0, e_, gf9_0⟩; exact ⟨gv9_0, e_, gf9_0.up hl⟩)) [0] rfl t_kr t_kr ?_ ?_
 ·
  intro hD wD τD hL hS hO gv8_ gf8_
  obtain ⟨gv8_0, rfl, gf8_0⟩ := gf8_
  have st30 := St.start hS
  refine v_mvT X X ?_
  exact zx ⟨_, _, rfl, st30, _, rfl, ⟨_, rfl, gf8_0⟩⟩
 refine zH 10 (.res (fun h' res_ => Sl (LSl LInt) h' res_ ((((allL (p) (((inB question 0 ((p.questions.length : Int) - 1))))))))) (fun _ _ _ hl f => f.up hl)) [0] rfl t_kr t_kr ?_ ?_
 ·
  intro hD wD τD hL hS hO gv9_ gf9_
  obtain ⟨gv9_0, rfl, gf9_0⟩ := gf9_
  have st31 := St.start hS
  refine v_extract (v := gv9_0) X X X ?_
  exact zx ⟨_, _, rfl, st31, _, rfl, gf9_0⟩
 refine zH 11 (.det (.int .i64 ((allE (p) (((inB question 0 ((p.questions.length : Int) - 1)))))))) [1] rfl t_kr t_kr ?_ ?_
 ·
  intro hD wD τD hL hS hO gv9_ gf9_
  obtain ⟨gv9_0, rfl, gf9_0⟩ := gf9_
  have st32 := St.start hS
  refine v_extract (v := (.int _ _)) X X X ?_
  exact zx ⟨_, _, rfl, st32, (), rfl, trivial⟩
 refine zH 12 (.res (fun h' res_ => Sl (LSl LInt) h' res_ (((((allL (p) (((inB question 0 ((p.questions.length : Int) - 1)))))))))) (fun _ _ _ hl f => f.up hl)) [11, 10, 9, 8, 7, 6, 5, 4, 3, 2, 1] rfl t_kr t_kr ?_ ?_
 ·
  intro hD wD τD hL hS hO _ _ _ _ _ _ _ _ _ _ _ _ gv6_0 gf6_0 _ _ gv8_ gf8_ gv9_ gf9_ gv10_0 gf10_0
  obtain ⟨gv8_0, rfl, gf8_0⟩ := gf8_
  obtain ⟨gv9_0, rfl, gf9_0⟩ := gf9_
  have st33 := St.start hS
  refine v_assign (v := gv10_0) X X ?_
  exact zx ⟨_, _, rfl, st33, _, rfl, gf10_0⟩
 refine zp 13 [12, 11, 10, 9, 8, 7, 6, 5, 4, 3, 2, 1, 0] X t_kr t_kr X X (fun hD wD τD hL hS hO _ _ _ _ _ _ _ _ _ _ _ _ gv6_0 gf6_0 _ _ gv8_ gf8_ gv9_ gf9_ gv10_0 gf10_0 _ _ gv12_0 gf12_0 => (r_asI X))<|Drw.nil X X X X X X ⟨t_kr, X, t_kr, X, t_kr, X, X, t_kr, cx_nil⟩ ?_
 intro hE34 w35 _ le36 st37 _ _ _ _ _ _ _ _ _ _ _ _ gv6_0x38 gf6_0x38 _ _ gv8_x38 gf8_x38 gv9_x38 gf9_x38 gv10_0x38 gf10_0x38 _ _ gv12_0x38 gf12_0x38 _ _
 obtain ⟨gv8_0x38, rfl, gf8_0x38⟩ := gf8_x38
 obtain ⟨gv9_0x38, rfl, gf9_0x38⟩ := gf9_x38
 refine AllDeps.fin X<|U<|zj<|W.sr<|v_mvI X X<|v_neq X X X<|Z ?_
 refine zk rfl (fun c39 => ?_) (fun c39 => ?_)
 ·
  replace c39 := of_decide_eq_true c39
  refine W.sr<|v_mvI X X<|v_asL X X<|v_asI X X<|Z<|zm<|za<|zU Tryz.results24 ?_
  refine ⟨hE34, _, rfl, st37.done, ?_⟩
  refine ⟨_, tup2 rfl (zE ?_), Sl.to (Sl.nil _ _) ?_⟩
  all_goals first | exact hz0.symm | (rw [openR, if_pos hz0, hq]; rfl) | (simp_all [openR]; done)
 ·
  replace c39 := of_decide_eq_false c39
  refine zq<|U<|zj ?_
  have hz0 : allE p (inB question 0 ((p.questions.length : Int) - 1)) = 0 := by simpa using c39
  obtain ⟨hk1, hk2, hk3, hk4⟩ := all_ok hz0
  have hk5 := List.length_pos_iff.2 hk3
  have hk6 : (allL p (inB question 0 ((p.questions.length : Int) - 1))).length = (truthsL p).length := by rw [hk4]
  have hk7 := truths_le (check_ok hk1).2
  have hk8 := poll_len (check_ok hk1).2
  have hin : inB question 0 ((p.questions.length : Int) - 1) = true := (all_ok hz0).2.1
  have hin2 : 0 ≤ question ∧ question < (p.questions.length : Int) := by simp only [inB, Bool.and_eq_true, decide_eq_true_eq] at hin; omega
  obtain ⟨q, hq⟩ : ∃ q, p.questions[question.toNat]? = some q := ⟨_, List.getElem?_eq_getElem (by omega)⟩
  have hq0 := poll_quest (check_ok hk1).2 hq
  refine zo<|v_asL X X<|Z<|zj<|W.sr<|v_move (v := gv12_0x38) X X<|v_len gf12_0x38 X Tryz.underlying87 X<|v_mvI X X<|Z<|zt ?_
  have st43 := st37.snoc
  have f44 := OSl.nil LInt 3 hE34
  refine zJ [8, 10, 28, 29, 30, 31, 32, 33, 34, 35, 36, 37, 38, 39] (G := Nat × Value × List (Nat × Obj) × Heap) (fun ⟨i, v_8, o_8, h40⟩ => [(8, v_8), (28, .int .i64 (i : Int))]) (fun ⟨i, v_8, o_8, h40⟩ w' => Le hE34 h40 ∧ St h w h40 w' [o_8] ∧ (OSl LInt 3 h40 v_8 ((((allL p (inB question 0 ((p.questions.length : Int) - 1))).take i).map (choiceAt question.toNat))) o_8) ∧ (i ≤ (allL p (inB question 0 ((p.questions.length : Int) - 1))).length)) (fun ⟨i, v_8, o_8, h40⟩ => (allL p (inB question 0 ((p.questions.length : Int) - 1))).length - i) ⟨0, (.slice none 0 0), [], hE34⟩ ⟨rfl, rfl, trivial⟩ ⟨Le.refl _, st43, (OSl.to f44 (by rfl)), zO⟩ ?_
  rintro ⟨i, v_8, o_8, h40⟩ _ w45 ⟨le41, st42, hO_8, hi⟩
  refine W.sr<|v_lss X X X<|Z<|zj ?_
  refine zk rfl (fun c46 => ?_) (fun c46 => ?_)
  ·
   replace c46 := of_decide_eq_true c46
   refine zq<|U<|zj<|zt<|W.sr ?_
   have ht : ∃ y_, ((((((allL (p) (((inB question 0 ((p.questions.length : Int) - 1))))))))))[i]? = some y_ := ⟨_, List.getElem?_eq_getElem (by omega)⟩
   obtain ⟨t, ht⟩ := ht
   obtain ⟨b47, o48, _, he50, hc49, hr_t⟩ := Sl.elem (gf12_0x38.up le41) ht
   obtain ⟨v51, rfl, f52⟩ := hr_t
   have f52_b := f52.le
   refine v_index_el he50 X X (hk := X) (hu := Tryz.underlying87) (hz := Tryz.sizeOf42) X<|v_load_cells1 (j := 0) st42.sub hc49 X X X Tryz.isAgg42 X<|v_assign (v := v51) X X<|Z<|zo<|v_move (v := v_8) X X<|v_move (v := v51) X X<|v_mvI X X ?_
   have ha : ∃ y_, (t)[question.toNat]? = some y_ := ⟨_, List.getElem?_eq_getElem (by have q1 := truth_len (show t ∈ truthsL p from by rw [← hk4]; exact List.mem_of_getElem? ht); omega)⟩
   obtain ⟨a, ha⟩ := ha
   obtain ⟨b53, o54, _, he56, hc55, hr_a⟩ := Sl.elem f52 ha
   obtain rfl := hr_a
   refine zr rfl rfl (zD he56 rfl rfl (hk := (show _ = ((question.toNat : Nat) : Int) by omega)) (hu := Tryz.underlying42) (hz := Tryz.sizeOf3)) ?_
   refine v_load_cells1 (j := 0) st42.sub hc55 X X X Tryz.isAgg3 X<|zN (L := LInt) (xs := [a]) (cs := [.int .i64 a]) st42 (Enc.cons (L := LInt) (vs := [.int .i64 a]) (x := a) (h := h40) (X) Enc.nil) X X X Tryz.underlying42 Tryz.info3 X X X t_kr ?_
   intro v57 w58 h61 le62 f59 st60
   refine zZ (k := 0) (nb := 8) st60 (hO_8.up le62) rfl f59 rfl rfl rfl Tryz.underlying42 Tryz.info3 rfl rfl rfl (by decide) rfl (by simp only [List.length_append, List.length_map, List.length_take, List.length_cons, List.length_nil]; omega) (by simp only [List.length_append, List.length_map, List.length_take, List.length_cons, List.length_nil]; omega) ?_
   intro v63 o64 w65 _ e66 f67 st68
   subst e66
   refine v_assign (v := v63) X X<|zx<|zy<|U<|zo<|v_add X X t_om X<|v_mvI X X<|Z ?_
   refine ⟨⟨i + 1, v63, o64, h61⟩, ⟨rfl, rfl, trivial⟩, ?_, ⟨(le41.trans le62), st68, ?_, ?_⟩, ?_⟩
   ·exact zL
   ·refine OSl.to f67 ?_
    rw [take_snoc ht, List.map_append, List.map_cons, List.map_nil, choiceAt_some ha]
   ·first | omega | (simp; omega)
   ·show (allL p (inB question 0 ((p.questions.length : Int) - 1))).length - ((i + 1)) < (allL p (inB question 0 ((p.questions.length : Int) - 1))).length - i
    omega
  ·
   replace c46 := of_decide_eq_false c46
   refine zM<|zh<|zh<|zF<|U<|W.sr<|v_move (v := v_8) X X ?_
   have con := sort1 (L := LInt) (T := 3) (f := 70) (fun n : Int => .int .i64 n) id rfl (fun l => l.mergeSort fun a b => decide (a ≤ b)) (fun l => List.mergeSort_perm _ _) (fun blk off cap zs w hH hb hs => Tryz.slices_Sort_int blk off cap zs w hH hb hs) (fun p cap w => Tryz.slices_Sort_int_none p cap w) (i := 0) st42 hO_8 rfl (by simp only [List.length_mergeSort, List.length_map, List.length_take]; omega)
   refine zV rfl rfl (zP rfl Tryz.call70 rfl) (con.mono ?_)
   rintro _ w69 ⟨rfl, o70, _, e71, f72, st73⟩
   subst e71
   refine ⟨_, rfl, ?_⟩
   clear con
   refine Z<|W.sr<|v_move (v := v_8) X X ?_
   have con := c_slices_Compact_Lint_int (rest := []) f72 (by simp only [List.length_mergeSort, List.length_map, List.length_take]; omega) st73
   refine zV rfl rfl (zP rfl Tryz.call71 rfl) (con.mono ?_)
   rintro _ w74 ⟨h75, o76, v77, rfl, le78, st79, f80⟩
   refine ⟨_, rfl, ?_⟩
   clear con
   have f81 := OSl.to f80 (show _ = (openK (truthsL p) question.toNat q.heads.length) from by rw [List.take_of_length_le (by omega), hk4]; exact open_sorted fun t ht_ => truth_at ht_ hq)
   refine v_assign (v := v77) X X<|v_asI X X<|Z<|zm<|zU Tryz.results24 ?_
   obtain ⟨h82, le83, f84, st85⟩ := OSl.freeze (k := 0) st79 f81 rfl (by have q_ := openK_len (truthsL p) question.toNat q.heads.length; omega)
   refine ⟨h82, _, rfl, st85.done, ?_⟩
   refine ⟨_, tup2 rfl (zE ?_), Sl.to f84 ?_⟩
   all_goals first | exact hz0.symm | (rw [openR, if_pos hz0, hq]; rfl) | (simp_all [openR]; done)
end Go.Pk

namespace Go.Pk
open Go Go.RowKit Go.Proofs
set_option maxRecDepth 4000 in
set_option maxHeartbeats 1000000 in
theorem c_postilref07_Great {h : Heap} {w : World} (hs : Sub h w) {p : Poll} {p_v0 : Value} (p_f0 : Sl LChapter h p_v0 p.text.chapters) {p_v1 : Value} (p_f1 : Sl LRule h p_v1 p.lexicon.rules) {p_v2 : Value} (p_f2 : Sl LDecision h p_v2 p.lexicon.decisions) {p_v3 : Value} (p_f3 : Sl LQuestion h p_v3 p.questions) {p_v4 : Value} (p_f4 : Sl LVoter h p_v4 p.voters) : Calls Tryz.prog 6 #[.agg #[p_v0, p_v1, p_v2, p_v3, p_v4]] w (Rets h w (fun _ _ res_ => res_ = .bool ((!smallP p)))) := by
 refine zA (n := 79) (args := [.agg #[p_v0, p_v1, p_v2, p_v3, p_v4]]) Tryz.func6 X X X ?_
 have st0 : St h w h w [] := St.start hs
 have p_f0_b := p_f0.le
 have p_f1_b := p_f1.le
 have p_f2_b := p_f2.le
 have p_f3_b := p_f3.le
 have p_f4_b := p_f4.le
 refine W.sr<|zz st0 (cs := [p_v0, p_v1, p_v2, p_v3, p_v4]) X X X ?_
 intro b1 w2 h3 le4 hc5 st6
 refine v_asB X X<|Z<|zj<|W.sr<|v_field_addr X Tryz.underlying32 X Tryz.sizeOf24 X X<|v_load_cellsN (j := 0) st6.sub hc5 (us := [p_v0]) X X Tryz.isAgg24 Tryz.sizeOf24 X X X<|zi st6 X X X Tryz.call34 X (c_postilref01_Great st6.sub (t := p.text) (p_f0.up le4)) ?_
 intro r7 w8 h9 le10 st11 q12
 obtain rfl := q12
 refine v_mvB X X ?_
 refine zw (d := 9) rfl (fun g13 => ?_) (fun g13 => ?_)
 ·
  refine Y X X X X X<|Y X X X X X<|Y X X X X X<|v_pickT (v := (.bool _)) X X X<|v_mvB X X<|Y X X X X X<|Y X X X X X<|Y X X X X X<|Y X X X X X<|v_pickT (v := (.bool _)) X X X<|v_mvB X X<|Y X X X X X<|Y X X X X X<|Y X X X X X<|Y X X X X X<|v_pickT (v := (.bool _)) X X X<|Z ?_
  refine zk rfl (fun c14 => ?_) (fun c14 => ?_)
  ·
   refine W.sr<|v_asB X X<|Z<|zm<|za<|zb Tryz.results6 ?_
   refine ⟨h9, _, rfl, st11.done, ?_⟩
   refine zf ?_
   rw [small_no p (.inl (by simp_all))]; rfl
  ·
   cases c14
 ·
  refine M X X (d := 9) X<|v_field_addr X Tryz.underlying32 X Tryz.sizeOf28 X X<|M X X (d := 9) X<|v_load_cellsN (j := 1) st11.sub (hc5.up le10) (us := [p_v1, p_v2]) X X Tryz.isAgg28 Tryz.sizeOf28 X X X<|M X X (d := 9) X<|zi st11 X X X Tryz.call35 X (c_postilref04_Great st11.sub (x := p.lexicon) (p_f1.up (le4.trans le10)) (p_f2.up (le4.trans le10))) ?_
  intro r15 w16 h17 le18 st19 q20
  obtain rfl := q20
  refine v_pickF (v := (.bool _)) X X X<|v_mvB X X ?_
  refine zw (d := 14) rfl (fun g21 => ?_) (fun g21 => ?_)
  ·
   refine Y X X X X X<|Y X X X X X<|Y X X X X X<|Y X X X X X<|v_pickT (v := (.bool _)) X X X<|v_mvB X X<|Y X X X X X<|Y X X X X X<|Y X X X X X<|Y X X X X X<|v_pickT (v := (.bool _)) X X X<|Z ?_
   refine zk rfl (fun c22 => ?_) (fun c22 => ?_)
   ·
    refine W.sr<|v_asB X X<|Z<|zm<|za<|zb Tryz.results6 ?_
    refine ⟨h17, _, rfl, st19.done, ?_⟩
    refine zf ?_
    rw [small_no p (.inr (.inl (by simp_all)))]; rfl
   ·
    cases c22
  ·
   refine M X X (d := 14) X<|v_field_addr X Tryz.underlying32 X Tryz.sizeOf29 X X<|M X X (d := 14) X<|v_load_cells1 (j := 3) st19.sub (hc5.up (le10.trans le18)) X X X Tryz.isAgg29 X<|M X X (d := 14) X<|v_len (p_f3.up ((le4.trans le10).trans le18)) X Tryz.underlying29 X<|M X X (d := 14) X<|v_gtr X X X<|v_pickF (v := (.bool _)) X X X<|v_mvB X X ?_
   refine zw (d := 20) rfl (fun g23 => ?_) (fun g23 => ?_)
   ·
    replace g23 := of_decide_eq_true g23
    refine Y X X X X X<|Y X X X X X<|Y X X X X X<|Y X X X X X<|v_pickT (v := (.bool _)) X X X<|Z ?_
    refine zk rfl (fun c24 => ?_) (fun c24 => ?_)
    ·
     refine W.sr<|v_asB X X<|Z<|zm<|za<|zb Tryz.results6 ?_
     refine ⟨h17, _, rfl, st19.done, ?_⟩
     refine zf ?_
     rw [small_no p (.inr (.inr (.inl (by omega))))]; rfl
    ·
     cases c24
   ·
    replace g23 := of_decide_eq_false g23
    refine M X X (d := 20) X<|v_field_addr X Tryz.underlying32 X Tryz.sizeOf30 X X<|M X X (d := 20) X<|v_load_cells1 (j := 4) st19.sub (hc5.up (le10.trans le18)) X X X Tryz.isAgg30 X<|M X X (d := 20) X<|v_len (p_f4.up ((le4.trans le10).trans le18)) X Tryz.underlying30 X<|M X X (d := 20) X<|v_gtr X X X<|v_pickF (v := (.bool _)) X X X<|Z ?_
    refine zk rfl (fun c25 => ?_) (fun c25 => ?_)
    ·
     replace c25 := of_decide_eq_true c25
     refine W.sr<|v_asB X X<|Z<|zm<|za<|zb Tryz.results6 ?_
     refine ⟨h17, _, rfl, st19.done, ?_⟩
     refine zf ?_
     rw [small_no p (.inr (.inr (.inr (by omega))))]; rfl
    ·
     replace c25 := of_decide_eq_false c25
     refine zq<|U<|zj<|W.sr<|v_asI X X<|Z<|zt ?_
     refine zJ [2, 3, 4, 26, 27, 28, 29, 30, 31, 32, 33, 34, 35, 36, 37, 38, 39, 40, 41, 42, 43, 44, 45, 46, 47, 48, 49, 50, 51, 52, 53, 54, 55, 56, 57, 58, 59, 60, 61, 62, 63] (G := Nat × Heap) (fun ⟨i, h26⟩ => [(3, .int .i64 (i : Int))]) (fun ⟨i, h26⟩ w' => Le h17 h26 ∧ St h w h26 w' [] ∧ (i ≤ p.questions.length) ∧ ((p.questions.take i).all smallQ = true)) (fun ⟨i, h26⟩ => p.questions.length - i) ⟨0, h17⟩ ⟨rfl, trivial⟩ ⟨Le.refl _, st19, zO, zO⟩ ?_
     rintro ⟨i, h26⟩ _ w29 ⟨le27, st28, hi, hA⟩
     refine zj<|W.sr<|v_mvI X X<|v_field_addr X Tryz.underlying32 X Tryz.sizeOf29 X X<|v_load_cells1 (j := 3) st28.sub (hc5.up ((le10.trans le18).trans le27)) X X X Tryz.isAgg29 X<|v_len (p_f3.up (((le4.trans le10).trans le18).trans le27)) X Tryz.underlying29 X<|v_lss X X X<|Z ?_
     refine zk rfl (fun c30 => ?_) (fun c30 => ?_)
     ·
      replace c30 := of_decide_eq_true c30
      refine zq<|U<|zj<|zt<|zj<|W.sr<|v_field_addr X Tryz.underlying32 X Tryz.sizeOf29 X X<|v_load_cells1 (j := 3) st28.sub (hc5.up ((le10.trans le18).trans le27)) X X X Tryz.isAgg29 X<|v_mvI X X ?_
      have hq : ∃ y_, (p.questions)[i]? = some y_ := ⟨_, List.getElem?_eq_getElem (by omega)⟩
      obtain ⟨q, hq⟩ := hq
      obtain ⟨b31, o32, _, he34, hc33, hr_q⟩ := Sl.elem (p_f3.up (((le4.trans le10).trans le18).trans le27)) hq
      obtain ⟨v35, rfl, f36⟩ := hr_q
      have f36_b := f36.le
      refine v_index_el he34 X X (hk := X) (hu := Tryz.underlying29) (hz := Tryz.sizeOf82) X<|v_field_addr X Tryz.underlying82 X Tryz.sizeOf80 X X<|v_load_cells1 (j := 3) st28.sub hc33 X X X Tryz.isAgg80 X<|v_len f36 X Tryz.underlying80 X<|v_gtr X X X<|Z ?_
      refine zk rfl (fun c37 => ?_) (fun c37 => ?_)
      ·
       replace c37 := of_decide_eq_true c37
       refine W.sr<|v_asB X X<|Z<|zm<|za<|zl<|za<|za<|zl<|za<|zb Tryz.results6 ?_
       refine ⟨h26, _, rfl, st28.done, ?_⟩
       refine zf ?_
       rw [small_noq hq (small_q6 (by omega))]; rfl
      ·
       replace c37 := of_decide_eq_false c37
       refine zq<|U<|W.sr<|v_asI X X<|Z<|zt ?_
       refine zJ [2, 4, 41, 42, 43, 44, 45, 46, 47, 48, 49, 50, 51, 52, 53, 54, 55, 56, 57, 58, 59, 60, 61, 62, 63] (G := Nat × Heap) (fun ⟨k, h38⟩ => [(4, .int .i64 (k : Int))]) (fun ⟨k, h38⟩ w' => Le h26 h38 ∧ St h w h38 w' [] ∧ (k ≤ q.heads.length) ∧ (((q.heads.take k).all fun h => decide (h.stem.length ≤ 40)) = true)) (fun ⟨k, h38⟩ => q.heads.length - k) ⟨0, h26⟩ ⟨rfl, trivial⟩ ⟨Le.refl _, st28, zO, zO⟩ ?_
       rintro ⟨k, h38⟩ _ w41 ⟨le39, st40, hk, hB⟩
       refine zj<|W.sr<|v_mvI X X<|v_field_addr X Tryz.underlying32 X Tryz.sizeOf29 X X<|v_load_cells1 (j := 3) st40.sub (hc5.up (((le10.trans le18).trans le27).trans le39)) X X X Tryz.isAgg29 X<|v_mvI X X<|v_index_el he34 X X (hk := X) (hu := Tryz.underlying29) (hz := Tryz.sizeOf82) X<|v_field_addr X Tryz.underlying82 X Tryz.sizeOf80 X X<|v_load_cells1 (j := 3) st40.sub (hc33.up le39) X X X Tryz.isAgg80 X<|v_len (f36.up le39) X Tryz.underlying80 X<|v_lss X X X<|Z ?_
       refine zk rfl (fun c42 => ?_) (fun c42 => ?_)
       ·
        replace c42 := of_decide_eq_true c42
        refine zq<|U<|zj<|zt<|W.sr<|v_field_addr X Tryz.underlying32 X Tryz.sizeOf29 X X<|v_load_cells1 (j := 3) st40.sub (hc5.up (((le10.trans le18).trans le27).trans le39)) X X X Tryz.isAgg29 X<|v_mvI X X<|v_index_el he34 X X (hk := X) (hu := Tryz.underlying29) (hz := Tryz.sizeOf82) X<|v_field_addr X Tryz.underlying82 X Tryz.sizeOf80 X X<|v_load_cells1 (j := 3) st40.sub (hc33.up le39) X X X Tryz.isAgg80 X<|v_mvI X X ?_
        have hhd : ∃ y_, (q.heads)[k]? = some y_ := ⟨_, List.getElem?_eq_getElem (by omega)⟩
        obtain ⟨hd, hhd⟩ := hhd
        obtain ⟨b43, o44, _, he46, hc45, hr_hd⟩ := Sl.elem (f36.up le39) hhd
        obtain ⟨rfl, ls47, lu48⟩ := hr_hd
        simp only [big] at ls47
        refine v_index_el he46 X X (hk := X) (hu := Tryz.underlying80) (hz := Tryz.sizeOf75) X<|v_field_addr X Tryz.underlying75 X Tryz.sizeOf9 X X<|v_load_cells1 (j := 0) st40.sub hc45 X X X Tryz.isAgg9 X<|v_len_str X Tryz.underlying9 X<|v_gtr X X X<|Z ?_
        refine zk rfl (fun c49 => ?_) (fun c49 => ?_)
        ·
         replace c49 := of_decide_eq_true c49
         refine W.sr<|v_asB X X<|Z<|zm<|zl<|za<|za<|zl<|zl<|za<|za<|zl<|za<|zb Tryz.results6 ?_
         refine ⟨h38, _, rfl, st40.done, ?_⟩
         refine zf ?_
         rw [small_noq hq (small_qh hhd (by omega))]; rfl
        ·
         replace c49 := of_decide_eq_false c49
         refine zq<|zy<|U<|zo<|v_mvI X X<|v_add X X t_om X<|v_asI X X<|Z ?_
         refine ⟨⟨k + 1, h38⟩, ⟨rfl, trivial⟩, ?_, ⟨le39, st40, ?_, ?_⟩, ?_⟩
         ·exact zL
         ·first | omega | (simp; omega)
         ·rw [all_snocB hhd, hB, Bool.true_and]; exact decide_eq_true (by omega)
         ·show q.heads.length - ((k + 1)) < q.heads.length - k
          omega
       ·
        replace c42 := of_decide_eq_false c42
        refine zM<|zh<|zh<|zF<|zy<|U<|zo<|v_mvI X X<|v_add X X t_om X<|v_asI X X<|Z ?_
        refine ⟨⟨i + 1, h38⟩, ⟨rfl, trivial⟩, ?_, ⟨(le27.trans le39), st40, ?_, ?_⟩, ?_⟩
        ·exact zL
        ·first | omega | (simp; omega)
        ·rw [all_snocB hq, hA, Bool.true_and]; exact small_qy (by omega) hB (by omega)
        ·show p.questions.length - ((i + 1)) < p.questions.length - i
         omega
     ·
      replace c30 := of_decide_eq_false c30
      refine zM<|zh<|zh<|zF<|U<|zj<|W.sr<|v_asI X X<|Z<|zt ?_
      refine zJ [2, 5, 64, 65, 66, 67, 68, 69, 70, 71, 72, 73, 74, 75, 76, 77, 78] (G := Nat × Heap) (fun ⟨j, h50⟩ => [(5, .int .i64 (j : Int))]) (fun ⟨j, h50⟩ w' => Le h26 h50 ∧ St h w h50 w' [] ∧ (j ≤ p.voters.length) ∧ ((p.voters.take j).all smallV = true)) (fun ⟨j, h50⟩ => p.voters.length - j) ⟨0, h26⟩ ⟨rfl, trivial⟩ ⟨Le.refl _, st28, zO, zO⟩ ?_
      rintro ⟨j, h50⟩ _ w53 ⟨le51, st52, hj, hV⟩
      refine zj<|W.sr<|v_mvI X X<|v_field_addr X Tryz.underlying32 X Tryz.sizeOf30 X X<|v_load_cells1 (j := 4) st52.sub (hc5.up (((le10.trans le18).trans le27).trans le51)) X X X Tryz.isAgg30 X<|v_len (p_f4.up ((((le4.trans le10).trans le18).trans le27).trans le51)) X Tryz.underlying30 X<|v_lss X X X<|Z ?_
      refine zk rfl (fun c54 => ?_) (fun c54 => ?_)
      ·
       replace c54 := of_decide_eq_true c54
       refine zq<|U<|zj<|zt<|W.sr<|v_field_addr X Tryz.underlying32 X Tryz.sizeOf30 X X<|v_load_cells1 (j := 4) st52.sub (hc5.up (((le10.trans le18).trans le27).trans le51)) X X X Tryz.isAgg30 X<|v_mvI X X ?_
       have hv : ∃ y_, (p.voters)[j]? = some y_ := ⟨_, List.getElem?_eq_getElem (by omega)⟩
       obtain ⟨v, hv⟩ := hv
       obtain ⟨b55, o56, _, he58, hc57, hr_v⟩ := Sl.elem (p_f4.up ((((le4.trans le10).trans le18).trans le27).trans le51)) hv
       obtain ⟨v59, rfl, f60⟩ := hr_v
       have f60_b := f60.le
       refine v_index_el he58 X X (hk := X) (hu := Tryz.underlying30) (hz := Tryz.sizeOf84) X<|v_field_addr X Tryz.underlying84 X Tryz.sizeOf42 X X<|v_load_cells1 (j := 2) st52.sub hc57 X X X Tryz.isAgg42 X<|v_len f60 X Tryz.underlying42 X<|v_gtr X X X<|Z ?_
       refine zk rfl (fun c61 => ?_) (fun c61 => ?_)
       ·
        replace c61 := of_decide_eq_true c61
        refine W.sr<|v_asB X X<|Z<|zm<|zl<|za<|za<|zl<|za<|zb Tryz.results6 ?_
        refine ⟨h50, _, rfl, st52.done, ?_⟩
        refine zf ?_
        rw [small_nov hv (by omega)]; rfl
       ·
        replace c61 := of_decide_eq_false c61
        refine zq<|zy<|U<|zo<|v_mvI X X<|v_add X X t_om X<|v_asI X X<|Z ?_
        refine ⟨⟨j + 1, h50⟩, ⟨rfl, trivial⟩, ?_, ⟨le51, st52, ?_, ?_⟩, ?_⟩
        ·exact zL
        ·first | omega | (simp; omega)
        ·rw [all_snocB hv, hV, Bool.true_and]; exact decide_eq_true (by omega)
        ·show p.voters.length - ((j + 1)) < p.voters.length - j
         omega
      ·
       replace c54 := of_decide_eq_false c54
       refine zM<|zh<|zh<|zF<|U<|W.sr<|v_asB X X<|Z<|zm<|zb Tryz.results6 ?_
       refine ⟨h50, _, rfl, st52.done, ?_⟩
       refine zf ?_
       rw [small_yes (by simp_all) (by simp_all) (by omega) (by omega) hA (by omega) hV (by omega)]; rfl
set_option maxRecDepth 4000 in
theorem c_postilref07_Twin {h : Heap} {w : World} (hs : Sub h w) {p : Poll} {p_v0 : Value} (p_f0 : Sl LChapter h p_v0 p.text.chapters) {p_v1 : Value} (p_f1 : Sl LRule h p_v1 p.lexicon.rules) {p_v2 : Value} (p_f2 : Sl LDecision h p_v2 p.lexicon.decisions) {p_v3 : Value} (p_f3 : Sl LQuestion h p_v3 p.questions) {p_v4 : Value} (p_f4 : Sl LVoter h p_v4 p.voters) (hsm : smallP p = true) : Calls Tryz.prog 7 #[.agg #[p_v0, p_v1, p_v2, p_v3, p_v4]] w (Rets h w (fun h' _ res_ => ∃ u0 u1 u2 u3 u4, res_ = .agg #[u0, u1, u2, u3, u4] ∧ Sl LChapter h' u0 (p).text.chapters ∧ Sl LRule h' u1 (p).lexicon.rules ∧ Sl LDecision h' u2 (p).lexicon.decisions ∧ Sl LQuestion h' u3 (p).questions ∧ Sl LVoter h' u4 (p).voters)) := by
 refine zA (n := 68) (args := [.agg #[p_v0, p_v1, p_v2, p_v3, p_v4]]) Tryz.func7 X X X ?_
 have st0 : St h w h w [] := St.start hs
 have p_f0_b := p_f0.le
 have p_f1_b := p_f1.le
 have p_f2_b := p_f2.le
 have p_f3_b := p_f3.le
 have p_f4_b := p_f4.le
 obtain ⟨hs1, hs2, hs3, hs4⟩ := smallP_len hsm
 refine W.sr<|zz st0 (cs := [p_v0, p_v1, p_v2, p_v3, p_v4]) X X X ?_
 intro b1 w2 h3 le4 hc5 st6
 refine zI st6 Tryz.zeroValue32 X X ?_
 intro b7 w8 st9
 refine Z<|zj<|W.regionR (er := ([], [], [], [], 0)) (dsts := [7, 8, 9, 10, 11, 12, 13, 3]) st9 Tryz.mixed<|zp 0 [] X t_kr t_kr X X (fun hD wD τD hL hS hO  => (zB X Tryz.underlying32 X Tryz.sizeOf24 X))<|zp 1 [0] X t_kr t_kr X X (fun hD wD τD hL hS hO _ _ => (r_load_cellsN (j := 0) (hL.sub hS) hc5 (us := [p_v0]) X X Tryz.isAgg24 Tryz.sizeOf24 X X)) ?_
 refine zH 2 (.res (fun h' res_ => ∃ gv2_0, res_ = .agg #[gv2_0] ∧ Sl LChapter h' gv2_0 ((p.text)).chapters) (by rintro _ _ _ hl ⟨gv2_0, e_, gf2_0⟩; exact ⟨gv2_0, e_, gf2_0.up hl⟩)) [0] rfl t_kr t_kr ?_ ?_
 ·
  intro hD wD τD hL hS hO _ _
  have st10 := St.start hS
  refine zi st10 rfl rfl rfl Tryz.call36 rfl (c_postilref01_Twin st10.sub (t := p.text) (p_f0.up (le4.trans hL)) (by exact hs1)) ?_
  intro r11 w12 h13 le14 st15 q16
  obtain ⟨v17, rfl, f18⟩ := q16
  have f18_b := f18.le
  exact zx ⟨_, _, rfl, st15, _, rfl, ⟨_, rfl, f18⟩⟩
 refine zp 3 [] X t_kr t_kr X X (fun hD wD τD hL hS hO  => (zB X Tryz.underlying32 X Tryz.sizeOf28 X))<|zp 4 [0] X t_kr t_kr X X (fun hD wD τD hL hS hO _ _ => (r_load_cellsN (j := 1) (hL.sub hS) hc5 (us := [p_v1, p_v2]) X X Tryz.isAgg28 Tryz.sizeOf28 X X)) ?_
 refine zH 5 (.res (fun h' res_ => ∃ gv5_0 gv5_1, res_ = .agg #[gv5_0, gv5_1] ∧ Sl LRule h' gv5_0 ((p.lexicon)).rules ∧ Sl LDecision h' gv5_1 ((p.lexicon)).decisions) (by rintro _ _ _ hl ⟨gv5_0, gv5_1, e_, gf5_0, gf5_1⟩; exact ⟨gv5_0, gv5_1, e_, gf5_0.up hl, gf5_1.up hl⟩)) [0, 2] rfl t_kr t_kr ?_ ?_
 ·
  intro hD wD τD hL hS hO _ _ gv2_ gf2_
  obtain ⟨gv2_0, rfl, gf2_0⟩ := gf2_
  have st19 := St.start hS
  refine zi st19 rfl rfl rfl Tryz.call37 rfl (c_postilref04_Twin st19.sub (x := p.lexicon) (p_f1.up (le4.trans hL)) (p_f2.up (le4.trans hL)) (by exact hs2)) ?_
  intro r20 w21 h22 le23 st24 q25
  obtain ⟨v26, v28, rfl, f27, f29⟩ := q25
  have f27_b := f27.le
  have f29_b := f29.le
  exact zx ⟨_, _, rfl, st24, _, rfl, ⟨_, _, rfl, f27, f29⟩⟩
 refine zH 6 (.res (fun h' res_ => ∃ gv6_0 gv6_1 gv6_2, res_ = .agg #[gv6_0, gv6_1, gv6_2, (.slice none 0 0), (.slice none 0 0)] ∧ Sl LChapter h' gv6_0 ((Poll.mk (Text.mk (((p.text)).chapters)) (Lexicon.mk (((p.lexicon)).rules) (((p.lexicon)).decisions)) [] [])).text.chapters ∧ Sl LRule h' gv6_1 ((Poll.mk (Text.mk (((p.text)).chapters)) (Lexicon.mk (((p.lexicon)).rules) (((p.lexicon)).decisions)) [] [])).lexicon.rules ∧ Sl LDecision h' gv6_2 ((Poll.mk (Text.mk (((p.text)).chapters)) (Lexicon.mk (((p.lexicon)).rules) (((p.lexicon)).decisions)) [] [])).lexicon.decisions) (by rintro _ _ _ hl ⟨gv6_0, gv6_1, gv6_2, e_, gf6_0, gf6_1, gf6_2⟩; exact ⟨gv6_0, gv6_1, gv6_2, e_, gf6_0.up hl, gf6_1.up hl, gf6_2.up hl⟩)) [3, 0] rfl t_kr t_kr ?_ ?_
 ·
  intro hD wD τD hL hS hO gv2_ gf2_ gv5_ gf5_
  obtain ⟨gv2_0, rfl, gf2_0⟩ := gf2_
  obtain ⟨gv5_0, gv5_1, rfl, gf5_0, gf5_1⟩ := gf5_
  have st30 := St.start hS
  refine zr rfl rfl (r_build (cs := [gv2_0, gv5_0, gv5_1, (.slice none 0 0), (.slice none 0 0)]) (by obtain ⟨_, _, rfl⟩ := Sl.form gf2_0; obtain ⟨_, _, rfl⟩ := Sl.form gf5_0; obtain ⟨_, _, rfl⟩ := Sl.form gf5_1; kernel_rfl)) ?_
  exact zx ⟨_, _, rfl, st30, _, rfl, ⟨_, _, _, rfl, gf2_0, gf5_0, gf5_1⟩⟩
 refine Drw.al Tryz.zeroValue32 X<|Drw.ch<|Drw.nil X X X X X X ⟨t_kr, X, t_kr, X, t_kr, X, X, t_kr, (cx_cons X cx_nil)⟩ ?_
 intro b31
 intro hE33 w34 _ le35 st36 _ _ _ _ gv2_x32 gf2_x32 _ _ _ _ gv5_x32 gf5_x32 gv6_x32 gf6_x32
 obtain ⟨gv2_0x32, rfl, gf2_0x32⟩ := gf2_x32
 obtain ⟨gv5_0x32, gv5_1x32, rfl, gf5_0x32, gf5_1x32⟩ := gf5_x32
 obtain ⟨gv6_0x32, gv6_1x32, gv6_2x32, rfl, gf6_0x32, gf6_1x32, gf6_2x32⟩ := gf6_x32
 refine zC st36 (k := 1) X X X (zn gf6_0x32.one (zn gf6_1x32.one (zn gf6_2x32.one (zn X (zn X zX))))) Tryz.sizeOf32 X X X ?_
 intro w37 st38
 refine zx ⟨undef, rfl, _, _, Le.refl _, st38, ?_⟩
 intro hE39 w40 _ le41 st42 _ _ _ _ gv2_x43 gf2_x43 _ _ _ _ gv5_x43 gf5_x43 gv6_x43 gf6_x43
 obtain ⟨gv2_0x43, rfl, gf2_0x43⟩ := gf2_x43
 obtain ⟨gv5_0x43, gv5_1x43, rfl, gf5_0x43, gf5_1x43⟩ := gf5_x43
 obtain ⟨gv6_0x43, gv6_1x43, gv6_2x43, rfl, gf6_0x43, gf6_1x43, gf6_2x43⟩ := gf6_x43
 refine AllDeps.fin X<|U<|zj<|W.sr<|v_asI X X<|Z<|zt ?_
 have st47 := st42.snoc
 have f48 := OSl.nil LQuestion 82 hE39
 refine zJ [4, 14, 15, 16, 17, 18, 19, 20, 21, 22, 23, 24, 25, 26, 27, 28, 29, 30, 31, 32, 33, 34, 35, 36, 37, 38, 39, 40] (G := Nat × Value × List (Nat × Obj) × Heap) (fun ⟨i, v_c1_3, o_c1_3, h44⟩ => [(4, .int .i64 (i : Int))]) (fun ⟨i, v_c1_3, o_c1_3, h44⟩ w' => Le hE39 h44 ∧ St h w h44 w' [[(b7, .cells (List.toArray [(.slice none 0 0), (.slice none 0 0), (.slice none 0 0), (.slice none 0 0), (.slice none 0 0)]) 32)], [(b31, .cells (List.toArray [gv6_0x32, gv6_1x32, gv6_2x32, v_c1_3, (.slice none 0 0)]) 32)], o_c1_3] ∧ (OSl LQuestion 82 h44 v_c1_3 (p.questions.take i) o_c1_3) ∧ (i ≤ p.questions.length)) (fun ⟨i, v_c1_3, o_c1_3, h44⟩ => p.questions.length - i) ⟨0, (.slice none 0 0), [], hE39⟩ ⟨rfl, trivial⟩ ⟨Le.refl _, st47, (OSl.to f48 (by simp)), zO⟩ ?_
 rintro ⟨i, v_c1_3, o_c1_3, h44⟩ _ w49 ⟨le45, st46, hO_c1_3, hi⟩
 refine zj<|W.sr<|v_mvI X X<|v_field_addr X Tryz.underlying32 X Tryz.sizeOf29 X X<|v_load_cells1 (j := 3) st46.sub (hc5.up ((le35.trans le41).trans le45)) X X X Tryz.isAgg29 X<|v_len (p_f3.up (((le4.trans le35).trans le41).trans le45)) X Tryz.underlying29 X<|v_lss X X X<|Z ?_
 refine zk rfl (fun c50 => ?_) (fun c50 => ?_)
 ·
  replace c50 := of_decide_eq_true c50
  refine zq<|U<|zj<|zt ?_
  have hq : ∃ y_, (p.questions)[i]? = some y_ := ⟨_, List.getElem?_eq_getElem (by omega)⟩
  obtain ⟨q, hq⟩ := hq
  obtain ⟨b51, o52, _, he54, hc53, hr_q⟩ := Sl.elem (p_f3.up (((le4.trans le35).trans le41).trans le45)) hq
  obtain ⟨v55, rfl, f56⟩ := hr_q
  have f56_b := f56.le
  have hqh := smallP_q hsm hq
  refine W.regionR (er := ([1], [], [], [], 0)) (dsts := [21, 22, 23, 24, 25, 26, 27, 28, 29, 30, 31, 32, 33, 34, 35, 36, 37, 38, 39, 40]) st46 Tryz.mixed<|zp 0 [] X t_kr t_kr X X (fun hD wD τD hL hS hO  => (zB X Tryz.underlying32 X Tryz.sizeOf29 X))<|zp 1 [0] X t_kr t_kr X X (fun hD wD τD hL hS hO _ _ => (r_load_b1 ((hO X).get (k := 1) X) X X Tryz.isAgg29))<|zp 2 [] X t_kr t_kr X X (fun hD wD τD hL hS hO  => (zB X Tryz.underlying32 X Tryz.sizeOf29 X))<|zp 3 [0] X t_kr t_kr X X (fun hD wD τD hL hS hO _ _ => (zc (j := 3) (hL.sub hS) (hc5.up ((le35.trans le41).trans le45)) X X X Tryz.isAgg29))<|zp 4 [] X t_kr t_kr X X (fun hD wD τD hL hS hO  => (r_mvI X))<|zp 5 [1, 0] X t_kr t_kr X X (fun hD wD τD hL hS hO _ _ _ _ => (zD he54 X X (hk := X) (hu := Tryz.underlying29) (hz := Tryz.sizeOf82)))<|zp 6 [0] X t_kr t_kr X X (fun hD wD τD hL hS hO _ _ => (zB X Tryz.underlying82 X Tryz.sizeOf73 X))<|zp 7 [0] X t_kr t_kr X X (fun hD wD τD hL hS hO _ _ => (r_load_cellsN (j := 0) (hL.sub hS) hc53 (us := [.int .i64 (q.at_.chapter), .int .i64 (q.at_.line), .int .i64 (q.at_.word)]) X X Tryz.isAgg73 Tryz.sizeOf73 X X)) ?_
  refine zH 8 (.res (fun _ res_ => ∃ p, res_ = .slice p 0 0) (fun _ _ _ _ f => f)) [] rfl t_kr t_kr ?_ ?_
  ·
   intro hD wD τD hL hS hO 
   have st57 := St.start hS
   refine OpsL.sliceZ st57 X ⟨_, Tryz.sizeOf75⟩ Tryz.underlying80 ?_
   intro v58 w59 f60 st61
   exact zx ⟨_, _, rfl, st61, _, rfl, f60⟩
  refine zp 9 [] X t_kr t_kr X X (fun hD wD τD hL hS hO  => (zB X Tryz.underlying32 X Tryz.sizeOf29 X))<|zp 10 [0] X t_kr t_kr X X (fun hD wD τD hL hS hO _ _ => (zc (j := 3) (hL.sub hS) (hc5.up ((le35.trans le41).trans le45)) X X X Tryz.isAgg29))<|zp 11 [] X t_kr t_kr X X (fun hD wD τD hL hS hO  => (r_mvI X))<|zp 12 [1, 0] X t_kr t_kr X X (fun hD wD τD hL hS hO _ _ _ _ => (zD he54 X X (hk := X) (hu := Tryz.underlying29) (hz := Tryz.sizeOf82)))<|zp 13 [0] X t_kr t_kr X X (fun hD wD τD hL hS hO _ _ => (zB X Tryz.underlying82 X Tryz.sizeOf80 X))<|zp 14 [0] X t_kr t_kr X X (fun hD wD τD hL hS hO _ _ => (zc (j := 3) (hL.sub hS) hc53 X X X Tryz.isAgg80)) ?_
  refine zH 15 (.res (fun h' res_ => Sl LHead h' res_ q.heads) (fun _ _ _ hl f => f.up hl)) [6, 0] rfl t_kr t_kr ?_ ?_
  ·
   intro hD wD τD hL hS hO gv8_ gf8_ _ _
   have st62 := St.start hS
   have st63 := st62.snoc
   have f64 := OSl.nil LHead 75 hD
   have f65 := OSl.nil0 LHead 75 hD gf8_
   refine zZ (k := 0) (nb := 24) st63 f65 rfl (f56.up hL) rfl rfl rfl Tryz.underlying80 Tryz.info75 rfl rfl rfl (by decide) rfl (by simp only [List.length_take, List.length_append, List.length_cons, List.length_nil, List.nil_append]; omega) (by simp only [List.length_take, List.length_append, List.length_cons, List.length_nil, List.nil_append]; omega) ?_
   intro v66 o67 w68 _ e69 f70 st71
   subst e69
   obtain ⟨h72, le73, f74, st75⟩ := OSl.freeze (k := 0) st71 f70 rfl (by simp only [List.length_take, List.length_append, List.length_cons, List.length_nil, List.nil_append]; omega)
   exact zx ⟨_, _, rfl, st75.done, _, rfl, f74⟩
  refine zH 16 (.res (fun h' res_ => ∃ gv16_0, res_ = .agg #[.int .i64 ((Question.mk (q.at_) (q.heads))).at_.chapter, .int .i64 ((Question.mk (q.at_) (q.heads))).at_.line, .int .i64 ((Question.mk (q.at_) (q.heads))).at_.word, gv16_0] ∧ Sl LHead h' gv16_0 ((Question.mk (q.at_) (q.heads))).heads) (by rintro _ _ _ hl ⟨gv16_0, e_, gf16_0⟩; exact ⟨gv16_0, e_, gf16_0.up hl⟩)) [8, 0] rfl t_kr t_kr ?_ ?_
  ·
   intro hD wD τD hL hS hO _ _ gv15_0 gf15_0
   have st76 := St.start hS
   refine zr rfl rfl (r_build (cs := [.int .i64 (q.at_.chapter), .int .i64 (q.at_.line), .int .i64 (q.at_.word), gv15_0]) (by obtain ⟨_, _, rfl⟩ := Sl.form gf15_0; kernel_rfl)) ?_
   exact zx ⟨_, _, rfl, st76, _, rfl, ⟨_, rfl, gf15_0⟩⟩
  refine zH 17 (.res (fun h' res_ => Sl LQuestion h' res_ ([(Question.mk (q.at_) (q.heads))])) (fun _ _ _ hl f => f.up hl)) [0] rfl t_kr t_kr ?_ ?_
  ·
   intro hD wD τD hL hS hO gv16_ gf16_
   obtain ⟨gv16_0, rfl, gf16_0⟩ := gf16_
   have st77 := St.start hS
   refine zN (L := LQuestion) (xs := [(Question.mk (q.at_) (q.heads))]) (cs := [.int .i64 ((Question.mk (q.at_) (q.heads))).at_.chapter, .int .i64 ((Question.mk (q.at_) (q.heads))).at_.line, .int .i64 ((Question.mk (q.at_) (q.heads))).at_.word, gv16_0]) st77 (Enc.cons (L := LQuestion) (vs := [.int .i64 ((Question.mk (q.at_) (q.heads))).at_.chapter, .int .i64 ((Question.mk (q.at_) (q.heads))).at_.line, .int .i64 ((Question.mk (q.at_) (q.heads))).at_.word, gv16_0]) (x := (Question.mk (q.at_) (q.heads))) (h := hD) (⟨_, X, gf16_0⟩) Enc.nil) X X X Tryz.underlying29 Tryz.info82 X X X t_kr ?_
   intro v78 w79 h82 le83 f80 st81
   exact zx ⟨_, _, rfl, st81, _, rfl, f80⟩
  refine Drw.ch<|zp 19 [18, 17, 16, 15, 14, 13, 12, 11, 10, 9, 8, 7, 6, 5, 4, 3, 2, 1, 0] X t_kr t_kr X X (fun hD wD τD hL hS hO _ _ _ _ _ _ _ _ _ _ _ _ _ _ _ _ gv8_ gf8_ _ _ _ _ _ _ _ _ _ _ _ _ gv15_0 gf15_0 gv16_ gf16_ gv17_0 gf17_0 => (zB X Tryz.underlying32 X Tryz.sizeOf29 X))<|Drw.ch<|Drw.nil X X X X X X ⟨t_kr, X, t_kr, X, t_kr, X, X, t_kr, (cx_cons X (cx_cons X cx_nil))⟩ ?_
  intro hE85 w86 _ le87 st88 _ _ gv17_0x84 gf17_0x84 gv15_0x84 gf15_0x84
  refine zZ (k := 2) (nb := 48) st88 (hO_c1_3.up le87) rfl gf17_0x84 rfl rfl rfl Tryz.underlying29 Tryz.info82 rfl rfl rfl (by decide) rfl (by simp only [List.length_take, List.length_append, List.length_cons, List.length_nil, List.nil_append]; omega) (by simp only [List.length_take, List.length_append, List.length_cons, List.length_nil, List.nil_append]; omega) ?_
  intro v89 o90 w91 _ e92 f93 st94
  subst e92
  refine zx ⟨_, rfl, _, _, Le.refl _, st94, ?_⟩
  intro hE96 w97 _ le98 st99 _ _ _ _ _ _ _ _ _ _ _ _ _ _ _ _ _ _ gv8_x95 gf8_x95 _ _ _ _ _ _ _ _ _ _ _ _ gv15_0x95 gf15_0x95 gv16_x95 gf16_x95 gv17_0x95 gf17_0x95
  obtain ⟨gv16_0x95, rfl, gf16_0x95⟩ := gf16_x95
  refine OpsL.store1 st99 (k := 1) X X (v := v89) X f93.one Tryz.sizeOf29 X X X ?_
  intro w100 st101
  refine zx ⟨undef, rfl, _, _, Le.refl _, st101, ?_⟩
  intro hE102 w103 _ le104 st105 _ _ _ _ _ _ _ _ _ _ _ _ _ _ _ _ gv8_x106 gf8_x106 _ _ _ _ _ _ _ _ _ _ _ _ gv15_0x106 gf15_0x106 gv16_x106 gf16_x106 gv17_0x106 gf17_0x106 _ _
  obtain ⟨gv16_0x106, rfl, gf16_0x106⟩ := gf16_x106
  refine AllDeps.fin X<|zy<|U<|zo<|v_mvI X X<|v_add X X t_om X<|v_asI X X<|Z ?_
  refine ⟨⟨i + 1, v89, o90, hE102⟩, ⟨rfl, trivial⟩, ?_, ⟨(((le45.trans le87).trans le98).trans le104), st105, ?_, ?_⟩, ?_⟩
  ·exact zL
  ·refine OSl.to (f93.up (le98.trans le104)) ?_
   rw [take_snoc hq]
  ·first | omega | (simp; omega)
  ·show p.questions.length - ((i + 1)) < p.questions.length - i
   omega
 ·
  replace c50 := of_decide_eq_false c50
  refine zM<|zh<|zh<|zF<|U<|zj<|W.sr<|v_asI X X<|Z<|zt ?_
  have st110 := st46.snoc
  have f111 := OSl.nil LVoter 84 h44
  refine zJ [5, 6, 41, 42, 43, 44, 45, 46, 47, 48, 49, 50, 51, 52, 53, 54, 55, 56, 57, 58, 59, 60, 61, 62, 63, 64, 65, 66] (G := Nat × Value × List (Nat × Obj) × Heap) (fun ⟨k, v_c1_4, o_c1_4, h107⟩ => [(5, .int .i64 (k : Int))]) (fun ⟨k, v_c1_4, o_c1_4, h107⟩ w' => Le h44 h107 ∧ St h w h107 w' [[(b7, .cells (List.toArray [(.slice none 0 0), (.slice none 0 0), (.slice none 0 0), (.slice none 0 0), (.slice none 0 0)]) 32)], [(b31, .cells (List.toArray [gv6_0x32, gv6_1x32, gv6_2x32, v_c1_3, v_c1_4]) 32)], o_c1_3, o_c1_4] ∧ (OSl LVoter 84 h107 v_c1_4 (p.voters.take k) o_c1_4) ∧ (k ≤ p.voters.length)) (fun ⟨k, v_c1_4, o_c1_4, h107⟩ => p.voters.length - k) ⟨0, (.slice none 0 0), [], h44⟩ ⟨rfl, trivial⟩ ⟨Le.refl _, st110, (OSl.to f111 (by simp)), zO⟩ ?_
  rintro ⟨k, v_c1_4, o_c1_4, h107⟩ _ w112 ⟨le108, st109, hO_c1_4, hk⟩
  refine zj<|W.sr<|v_mvI X X<|v_field_addr X Tryz.underlying32 X Tryz.sizeOf30 X X<|v_load_cells1 (j := 4) st109.sub (hc5.up (((le35.trans le41).trans le45).trans le108)) X X X Tryz.isAgg30 X<|v_len (p_f4.up ((((le4.trans le35).trans le41).trans le45).trans le108)) X Tryz.underlying30 X<|v_lss X X X<|Z ?_
  refine zk rfl (fun c113 => ?_) (fun c113 => ?_)
  ·
   replace c113 := of_decide_eq_true c113
   refine zq<|U<|zj<|zt<|W.sr<|v_field_addr X Tryz.underlying32 X Tryz.sizeOf30 X X<|v_load_cells1 (j := 4) st109.sub (hc5.up (((le35.trans le41).trans le45).trans le108)) X X X Tryz.isAgg30 X<|v_mvI X X ?_
   have hv : ∃ y_, (p.voters)[k]? = some y_ := ⟨_, List.getElem?_eq_getElem (by omega)⟩
   obtain ⟨v, hv⟩ := hv
   obtain ⟨b114, o115, _, he117, hc116, hr_v⟩ := Sl.elem (p_f4.up ((((le4.trans le35).trans le41).trans le45).trans le108)) hv
   obtain ⟨v118, rfl, f119⟩ := hr_v
   have f119_b := f119.le
   refine v_index_el he117 X X (hk := X) (hu := Tryz.underlying30) (hz := Tryz.sizeOf84) X ?_
   have hvh := smallP_v hsm hv
   refine v_load_call st109.sub hc116 X Tryz.isAgg84 Tryz.sizeOf84 X X<|zI st109 Tryz.zeroValue84 X X ?_
   intro b120 w121 st122
   refine zC st122 (k := 4) X X X (zn X (zn X (zn f119.one zX))) Tryz.sizeOf84 X X X ?_
   intro w123 st124
   obtain ⟨h125, le126, hb127, st129⟩ := st124.freeze (k := 4) rfl
   have hc128 := Cells.of hb127
   refine Z<|W.regionR (er := ([1], [], [], [], 0)) (dsts := [53, 54, 55, 56, 57, 58, 59, 60, 61, 62, 63, 64, 65, 66]) st129 Tryz.mixed<|zp 0 [] X t_kr t_kr X X (fun hD wD τD hL hS hO  => (zB X Tryz.underlying32 X Tryz.sizeOf30 X))<|zp 1 [0] X t_kr t_kr X X (fun hD wD τD hL hS hO _ _ => (r_load_b1 ((hO X).get (k := 1) X) X X Tryz.isAgg30))<|zp 2 [] X t_kr t_kr X X (fun hD wD τD hL hS hO  => (zB X Tryz.underlying84 X Tryz.sizeOf3 X))<|zp 3 [0] X t_kr t_kr X X (fun hD wD τD hL hS hO _ _ => (zc (j := 0) (hL.sub hS) hc128 X X X Tryz.isAgg3))<|zp 4 [] X t_kr t_kr X X (fun hD wD τD hL hS hO  => (zB X Tryz.underlying84 X Tryz.sizeOf3 X))<|zp 5 [0] X t_kr t_kr X X (fun hD wD τD hL hS hO _ _ => (zc (j := 1) (hL.sub hS) hc128 X X X Tryz.isAgg3)) ?_
   refine zH 6 (.res (fun _ res_ => ∃ p, res_ = .slice p 0 0) (fun _ _ _ _ f => f)) [] rfl t_kr t_kr ?_ ?_
   ·
    intro hD wD τD hL hS hO 
    have st130 := St.start hS
    refine OpsL.sliceZ st130 X ⟨_, Tryz.sizeOf3⟩ Tryz.underlying42 ?_
    intro v131 w132 f133 st134
    exact zx ⟨_, _, rfl, st134, _, rfl, f133⟩
   refine zp 7 [] X t_kr t_kr X X (fun hD wD τD hL hS hO  => (zB X Tryz.underlying84 X Tryz.sizeOf42 X))<|zp 8 [0] X t_kr t_kr X X (fun hD wD τD hL hS hO _ _ => (zc (j := 2) (hL.sub hS) hc128 X X X Tryz.isAgg42)) ?_
   refine zH 9 (.res (fun h' res_ => Sl LInt h' res_ v.votes) (fun _ _ _ hl f => f.up hl)) [2, 0] rfl t_kr t_kr ?_ ?_
   ·
    intro hD wD τD hL hS hO gv6_ gf6_ _ _
    have st135 := St.start hS
    have st136 := st135.snoc
    have f137 := OSl.nil LInt 3 hD
    have f138 := OSl.nil0 LInt 3 hD gf6_
    refine zZ (k := 0) (nb := 8) st136 f138 rfl (f119.up (le126.trans hL)) rfl rfl rfl Tryz.underlying42 Tryz.info3 rfl rfl rfl (by decide) rfl (by simp only [List.length_take, List.length_append, List.length_cons, List.length_nil, List.nil_append]; omega) (by simp only [List.length_take, List.length_append, List.length_cons, List.length_nil, List.nil_append]; omega) ?_
    intro v139 o140 w141 _ e142 f143 st144
    subst e142
    obtain ⟨h145, le146, f147, st148⟩ := OSl.freeze (k := 0) st144 f143 rfl (by simp only [List.length_take, List.length_append, List.length_cons, List.length_nil, List.nil_append]; omega)
    exact zx ⟨_, _, rfl, st148.done, _, rfl, f147⟩
   refine zH 10 (.res (fun h' res_ => ∃ gv10_0, res_ = .agg #[.int .i64 ((Voter.mk ((v.id)) ((v.wrong)) (v.votes))).id, .int .i64 ((Voter.mk ((v.id)) ((v.wrong)) (v.votes))).wrong, gv10_0] ∧ Sl LInt h' gv10_0 ((Voter.mk ((v.id)) ((v.wrong)) (v.votes))).votes) (by rintro _ _ _ hl ⟨gv10_0, e_, gf10_0⟩; exact ⟨gv10_0, e_, gf10_0.up hl⟩)) [6, 4, 0] rfl t_kr t_kr ?_ ?_
   ·
    intro hD wD τD hL hS hO _ _ _ _ gv9_0 gf9_0
    have st149 := St.start hS
    refine zr rfl rfl (r_build (cs := [.int .i64 (v.id), .int .i64 (v.wrong), gv9_0]) (by obtain ⟨_, _, rfl⟩ := Sl.form gf9_0; kernel_rfl)) ?_
    exact zx ⟨_, _, rfl, st149, _, rfl, ⟨_, rfl, gf9_0⟩⟩
   refine zH 11 (.res (fun h' res_ => Sl LVoter h' res_ ([(Voter.mk ((v.id)) ((v.wrong)) (v.votes))])) (fun _ _ _ hl f => f.up hl)) [0] rfl t_kr t_kr ?_ ?_
   ·
    intro hD wD τD hL hS hO gv10_ gf10_
    obtain ⟨gv10_0, rfl, gf10_0⟩ := gf10_
    have st150 := St.start hS
    refine zN (L := LVoter) (xs := [(Voter.mk ((v.id)) ((v.wrong)) (v.votes))]) (cs := [.int .i64 ((Voter.mk ((v.id)) ((v.wrong)) (v.votes))).id, .int .i64 ((Voter.mk ((v.id)) ((v.wrong)) (v.votes))).wrong, gv10_0]) st150 (Enc.cons (L := LVoter) (vs := [.int .i64 ((Voter.mk ((v.id)) ((v.wrong)) (v.votes))).id, .int .i64 ((Voter.mk ((v.id)) ((v.wrong)) (v.votes))).wrong, gv10_0]) (x := (Voter.mk ((v.id)) ((v.wrong)) (v.votes))) (h := hD) (⟨_, X, gf10_0⟩) Enc.nil) X X X Tryz.underlying30 Tryz.info84 X X X t_kr ?_
    intro v151 w152 h155 le156 f153 st154
    exact zx ⟨_, _, rfl, st154, _, rfl, f153⟩
   refine Drw.ch<|zp 13 [12, 11, 10, 9, 8, 7, 6, 5, 4, 3, 2, 1, 0] X t_kr t_kr X X (fun hD wD τD hL hS hO _ _ _ _ _ _ _ _ _ _ _ _ gv6_ gf6_ _ _ _ _ gv9_0 gf9_0 gv10_ gf10_ gv11_0 gf11_0 => (zB X Tryz.underlying32 X Tryz.sizeOf30 X))<|Drw.ch<|Drw.nil X X X X X X ⟨t_kr, X, t_kr, X, t_kr, X, X, t_kr, (cx_cons X (cx_cons X cx_nil))⟩ ?_
   intro hE158 w159 _ le160 st161 _ _ gv11_0x157 gf11_0x157 gv9_0x157 gf9_0x157
   refine zZ (k := 3) (nb := 40) st161 (hO_c1_4.up (le126.trans le160)) rfl gf11_0x157 rfl rfl rfl Tryz.underlying30 Tryz.info84 rfl rfl rfl (by decide) rfl (by simp only [List.length_take, List.length_append, List.length_cons, List.length_nil, List.nil_append]; omega) (by simp only [List.length_take, List.length_append, List.length_cons, List.length_nil, List.nil_append]; omega) ?_
   intro v162 o163 w164 _ e165 f166 st167
   subst e165
   refine zx ⟨_, rfl, _, _, Le.refl _, st167, ?_⟩
   intro hE169 w170 _ le171 st172 _ _ _ _ _ _ _ _ _ _ _ _ _ _ gv6_x168 gf6_x168 _ _ _ _ gv9_0x168 gf9_0x168 gv10_x168 gf10_x168 gv11_0x168 gf11_0x168
   obtain ⟨gv10_0x168, rfl, gf10_0x168⟩ := gf10_x168
   refine OpsL.store1 st172 (k := 1) X X (v := v162) X f166.one Tryz.sizeOf30 X X X ?_
   intro w173 st174
   refine zx ⟨undef, rfl, _, _, Le.refl _, st174, ?_⟩
   intro hE175 w176 _ le177 st178 _ _ _ _ _ _ _ _ _ _ _ _ gv6_x179 gf6_x179 _ _ _ _ gv9_0x179 gf9_0x179 gv10_x179 gf10_x179 gv11_0x179 gf11_0x179 _ _
   obtain ⟨gv10_0x179, rfl, gf10_0x179⟩ := gf10_x179
   refine AllDeps.fin X<|zy<|U<|zo<|v_mvI X X<|v_add X X t_om X<|v_asI X X<|Z ?_
   refine ⟨⟨k + 1, v162, o163, hE175⟩, ⟨rfl, trivial⟩, ?_, ⟨((((le108.trans le126).trans le160).trans le171).trans le177), st178.take 4, ?_, ?_⟩, ?_⟩
   ·exact zL
   ·refine OSl.to (f166.up (le171.trans le177)) ?_
    rw [take_snoc hv]
   ·first | omega | (simp; omega)
   ·show p.voters.length - ((k + 1)) < p.voters.length - k
    omega
  ·
   replace c113 := of_decide_eq_false c113
   refine zM<|zh<|zh<|zF<|U<|W.sr<|v_load_ball (st109.get (k := 1) X) X Tryz.isAgg32 Tryz.sizeOf32 X X<|zC st109 (k := 0) X X X (zn gf6_0x32.one (zn gf6_1x32.one (zn gf6_2x32.one (zn hO_c1_3.one (zn hO_c1_4.one zX))))) Tryz.sizeOf32 X X X ?_
   intro w180 st181
   obtain ⟨h182, le183, hb184, st186⟩ := st181.freeze (k := 0) rfl
   have hc185 := Cells.of hb184
   refine Z<|zm<|Post.retcellF Tryz.results7 X Tryz.isAgg32 Tryz.sizeOf32 X st186.sub hc185 ?_
   obtain ⟨h187, le188, f189, st190⟩ := OSl.freeze (k := 2) st186 (hO_c1_3.up (le108.trans le183)) rfl (by simp only [List.length_take, List.length_append, List.length_cons, List.length_nil, List.nil_append]; omega)
   obtain ⟨h191, le192, f193, st194⟩ := OSl.freeze (k := 3) st190 (hO_c1_4.up (le183.trans le188)) rfl (by simp only [List.length_take, List.length_append, List.length_cons, List.length_nil, List.nil_append]; omega)
   refine ⟨h191, _, rfl, st194.done, ?_⟩
   refine ⟨_, _, _, _, _, ?_, Sl.to (gf6_0x32.up (((((le41.trans le45).trans le108).trans le183).trans le188).trans le192)) ?_, Sl.to (gf6_1x32.up (((((le41.trans le45).trans le108).trans le183).trans le188).trans le192)) ?_, Sl.to (gf6_2x32.up (((((le41.trans le45).trans le108).trans le183).trans le188).trans le192)) ?_, Sl.to (f189.up le192) ?_, Sl.to f193 ?_⟩
   all_goals first | rfl | (rw [List.take_of_length_le (by omega)])
set_option maxRecDepth 4000 in
set_option maxHeartbeats 1000000 in
theorem c_postilref07_Same {h : Heap} {w : World} (hs : Sub h w) {a : Poll} {a_v0 : Value} (a_f0 : Sl LChapter h a_v0 a.text.chapters) {a_v1 : Value} (a_f1 : Sl LRule h a_v1 a.lexicon.rules) {a_v2 : Value} (a_f2 : Sl LDecision h a_v2 a.lexicon.decisions) {a_v3 : Value} (a_f3 : Sl LQuestion h a_v3 a.questions) {a_v4 : Value} (a_f4 : Sl LVoter h a_v4 a.voters) {b : Poll} {b_v0 : Value} (b_f0 : Sl LChapter h b_v0 b.text.chapters) {b_v1 : Value} (b_f1 : Sl LRule h b_v1 b.lexicon.rules) {b_v2 : Value} (b_f2 : Sl LDecision h b_v2 b.lexicon.decisions) {b_v3 : Value} (b_f3 : Sl LQuestion h b_v3 b.questions) {b_v4 : Value} (b_f4 : Sl LVoter h b_v4 b.voters) : Calls Tryz.prog 17 #[.agg #[a_v0, a_v1, a_v2, a_v3, a_v4], .agg #[b_v0, b_v1, b_v2, b_v3, b_v4]] w (Rets h w (fun _ _ res_ => res_ = .bool (decide (a = b)))) := by
 refine zA (n := 126) (args := [.agg #[a_v0, a_v1, a_v2, a_v3, a_v4], .agg #[b_v0, b_v1, b_v2, b_v3, b_v4]]) Tryz.func17 X X X ?_
 have st0 : St h w h w [] := St.start hs
 have a_f0_b := a_f0.le
 have a_f1_b := a_f1.le
 have a_f2_b := a_f2.le
 have a_f3_b := a_f3.le
 have a_f4_b := a_f4.le
 have b_f0_b := b_f0.le
 have b_f1_b := b_f1.le
 have b_f2_b := b_f2.le
 have b_f3_b := b_f3.le
 have b_f4_b := b_f4.le
 refine W.sr<|zz st0 (cs := [a_v0, a_v1, a_v2, a_v3, a_v4]) X X X ?_
 intro b1 w2 h3 le4 hc5 st6
 refine zz st6 (cs := [b_v0, b_v1, b_v2, b_v3, b_v4]) X X X ?_
 intro b7 w8 h9 le10 hc11 st12
 refine v_asB X X<|Z<|zj<|W.sr<|v_field_addr X Tryz.underlying32 X Tryz.sizeOf24 X X<|v_load_cellsN (j := 0) st12.sub (hc5.up le10) (us := [a_v0]) X X Tryz.isAgg24 Tryz.sizeOf24 X X X<|v_field_addr X Tryz.underlying32 X Tryz.sizeOf24 X X<|v_load_cellsN (j := 0) st12.sub hc11 (us := [b_v0]) X X Tryz.isAgg24 Tryz.sizeOf24 X X X<|zi st12 X X X Tryz.call58 X (c_postilref01_Same st12.sub (a := a.text) (a_f0.up (le4.trans le10)) (b := b.text) (b_f0.up (le4.trans le10))) ?_
 intro r13 w14 h15 le16 st17 q18
 obtain rfl := q18
 refine v_not X X<|v_mvB X X ?_
 refine zw (d := 13) rfl (fun g19 => ?_) (fun g19 => ?_)
 ·
  refine Y X X X X X<|Y X X X X X<|Y X X X X X<|Y X X X X X<|Y X X X X X<|Y X X X X X<|v_pickT (v := (.bool _)) X X X<|v_mvB X X<|Y X X X X X<|Y X X X X X<|Y X X X X X<|Y X X X X X<|Y X X X X X<|Y X X X X X<|Y X X X X X<|v_pickT (v := (.bool _)) X X X<|v_mvB X X<|Y X X X X X<|Y X X X X X<|Y X X X X X<|Y X X X X X<|Y X X X X X<|Y X X X X X<|Y X X X X X<|v_pickT (v := (.bool _)) X X X<|Z ?_
  refine zk rfl (fun c20 => ?_) (fun c20 => ?_)
  ·
   refine W.sr<|v_asB X X<|Z<|zm<|za<|zb Tryz.results17 ?_
   refine ⟨h15, _, rfl, st17.done, ?_⟩
   refine zf ?_
   have q : a ≠ b := by
    rintro rfl
    simp_all
   simp [q]
  ·
   cases c20
 ·
  refine M X X (d := 13) X<|v_field_addr X Tryz.underlying32 X Tryz.sizeOf28 X X<|M X X (d := 13) X<|v_load_cellsN (j := 1) st17.sub (hc5.up (le10.trans le16)) (us := [a_v1, a_v2]) X X Tryz.isAgg28 Tryz.sizeOf28 X X X<|M X X (d := 13) X<|v_field_addr X Tryz.underlying32 X Tryz.sizeOf28 X X<|M X X (d := 13) X<|v_load_cellsN (j := 1) st17.sub (hc11.up le16) (us := [b_v1, b_v2]) X X Tryz.isAgg28 Tryz.sizeOf28 X X X<|M X X (d := 13) X<|zi st17 X X X Tryz.call32 X (c_postilref04_Same st17.sub (a := a.lexicon) (a_f1.up ((le4.trans le10).trans le16)) (a_f2.up ((le4.trans le10).trans le16)) (b := b.lexicon) (b_f1.up ((le4.trans le10).trans le16)) (b_f2.up ((le4.trans le10).trans le16))) ?_
  intro r21 w22 h23 le24 st25 q26
  obtain rfl := q26
  refine M X X (d := 13) X<|v_not X X<|v_pickF (v := (.bool _)) X X X<|v_mvB X X ?_
  refine zw (d := 21) rfl (fun g27 => ?_) (fun g27 => ?_)
  ·
   refine Y X X X X X<|Y X X X X X<|Y X X X X X<|Y X X X X X<|Y X X X X X<|Y X X X X X<|Y X X X X X<|v_pickT (v := (.bool _)) X X X<|v_mvB X X<|Y X X X X X<|Y X X X X X<|Y X X X X X<|Y X X X X X<|Y X X X X X<|Y X X X X X<|Y X X X X X<|v_pickT (v := (.bool _)) X X X<|Z ?_
   refine zk rfl (fun c28 => ?_) (fun c28 => ?_)
   ·
    refine W.sr<|v_asB X X<|Z<|zm<|za<|zb Tryz.results17 ?_
    refine ⟨h23, _, rfl, st25.done, ?_⟩
    refine zf ?_
    have q : a ≠ b := by
     rintro rfl
     simp_all
    simp [q]
   ·
    cases c28
  ·
   refine M X X (d := 21) X<|v_field_addr X Tryz.underlying32 X Tryz.sizeOf29 X X<|M X X (d := 21) X<|v_load_cells1 (j := 3) st25.sub (hc5.up ((le10.trans le16).trans le24)) X X X Tryz.isAgg29 X<|M X X (d := 21) X<|v_len (a_f3.up (((le4.trans le10).trans le16).trans le24)) X Tryz.underlying29 X<|M X X (d := 21) X<|v_field_addr X Tryz.underlying32 X Tryz.sizeOf29 X X<|M X X (d := 21) X<|v_load_cells1 (j := 3) st25.sub (hc11.up (le16.trans le24)) X X X Tryz.isAgg29 X<|M X X (d := 21) X<|v_len (b_f3.up (((le4.trans le10).trans le16).trans le24)) X Tryz.underlying29 X<|M X X (d := 21) X<|v_neq X X X<|v_pickF (v := (.bool _)) X X X<|v_mvB X X ?_
   refine zw (d := 30) rfl (fun g29 => ?_) (fun g29 => ?_)
   ·
    replace g29 := of_decide_eq_true g29
    refine Y X X X X X<|Y X X X X X<|Y X X X X X<|Y X X X X X<|Y X X X X X<|Y X X X X X<|Y X X X X X<|v_pickT (v := (.bool _)) X X X<|Z ?_
    refine zk rfl (fun c30 => ?_) (fun c30 => ?_)
    ·
     refine W.sr<|v_asB X X<|Z<|zm<|za<|zb Tryz.results17 ?_
     refine ⟨h23, _, rfl, st25.done, ?_⟩
     refine zf ?_
     have q : a ≠ b := by
      rintro rfl
      simp_all
     simp [q]
    ·
     cases c30
   ·
    replace g29 := of_decide_eq_false g29
    refine M X X (d := 30) X<|v_field_addr X Tryz.underlying32 X Tryz.sizeOf30 X X<|M X X (d := 30) X<|v_load_cells1 (j := 4) st25.sub (hc5.up ((le10.trans le16).trans le24)) X X X Tryz.isAgg30 X<|M X X (d := 30) X<|v_len (a_f4.up (((le4.trans le10).trans le16).trans le24)) X Tryz.underlying30 X<|M X X (d := 30) X<|v_field_addr X Tryz.underlying32 X Tryz.sizeOf30 X X<|M X X (d := 30) X<|v_load_cells1 (j := 4) st25.sub (hc11.up (le16.trans le24)) X X X Tryz.isAgg30 X<|M X X (d := 30) X<|v_len (b_f4.up (((le4.trans le10).trans le16).trans le24)) X Tryz.underlying30 X<|M X X (d := 30) X<|v_neq X X X<|v_pickF (v := (.bool _)) X X X<|Z ?_
    refine zk rfl (fun c31 => ?_) (fun c31 => ?_)
    ·
     replace c31 := of_decide_eq_true c31
     refine W.sr<|v_asB X X<|Z<|zm<|za<|zb Tryz.results17 ?_
     refine ⟨h23, _, rfl, st25.done, ?_⟩
     refine zf ?_
     have q : a ≠ b := by
      rintro rfl
      simp_all
     simp [q]
    ·
     replace c31 := of_decide_eq_false c31
     refine zq<|U<|zj<|W.sr<|v_asI X X<|Z<|zt ?_
     refine zJ [4, 5, 39, 40, 41, 42, 43, 44, 45, 46, 47, 48, 49, 50, 51, 52, 53, 54, 55, 56, 57, 58, 59, 60, 61, 62, 63, 64, 65, 66, 67, 68, 69, 70, 71, 72, 73, 74] (G := Nat × Heap) (fun ⟨i, h32⟩ => [(5, .int .i64 (i : Int))]) (fun ⟨i, h32⟩ w' => Le h23 h32 ∧ St h w h32 w' [] ∧ (i ≤ a.questions.length) ∧ (a.questions.take i = b.questions.take i)) (fun ⟨i, h32⟩ => a.questions.length - i) ⟨0, h23⟩ ⟨rfl, trivial⟩ ⟨Le.refl _, st25, zO, zO⟩ ?_
     rintro ⟨i, h32⟩ _ w35 ⟨le33, st34, hi, he⟩
     refine zj<|W.sr<|v_mvI X X<|v_field_addr X Tryz.underlying32 X Tryz.sizeOf29 X X<|v_load_cells1 (j := 3) st34.sub (hc5.up (((le10.trans le16).trans le24).trans le33)) X X X Tryz.isAgg29 X<|v_len (a_f3.up ((((le4.trans le10).trans le16).trans le24).trans le33)) X Tryz.underlying29 X<|v_lss X X X<|Z ?_
     refine zk rfl (fun c36 => ?_) (fun c36 => ?_)
     ·
      replace c36 := of_decide_eq_true c36
      refine zq<|U<|zj<|zt<|zj<|zT Tryz.mixed t_kr (Cls h32 _) (Cls.drew st34)<|u_field_addr X Tryz.underlying32 X Tryz.sizeOf29 X X<|zg X X (fun _ hC => (zc (j := 3) hC.sub (hc5.up (((le10.trans le16).trans le24).trans le33)) X X X Tryz.isAgg29))<|u_mvI X X ?_
      have hc : ∃ y_, (a.questions)[i]? = some y_ := ⟨_, List.getElem?_eq_getElem (by omega)⟩
      obtain ⟨c, hc⟩ := hc
      obtain ⟨b37, o38, _, he40, hc39, hr_c⟩ := Sl.elem (a_f3.up ((((le4.trans le10).trans le16).trans le24).trans le33)) hc
      obtain ⟨v41, rfl, f42⟩ := hr_c
      have f42_b := f42.le
      refine u_index_el he40 X X (hk := X) (hu := Tryz.underlying29) (hz := Tryz.sizeOf82) X<|u_field_addr X Tryz.underlying82 X Tryz.sizeOf73 X X<|zg X X (fun _ hC => (r_load_cellsN (j := 0) hC.sub hc39 (us := [.int .i64 (c.at_.chapter), .int .i64 (c.at_.line), .int .i64 (c.at_.word)]) X X Tryz.isAgg73 Tryz.sizeOf73 X X))<|u_field_addr X Tryz.underlying32 X Tryz.sizeOf29 X X<|zg X X (fun _ hC => (zc (j := 3) hC.sub (hc11.up ((le16.trans le24).trans le33)) X X X Tryz.isAgg29))<|u_mvI X X ?_
      have hd : ∃ y_, (b.questions)[i]? = some y_ := ⟨_, List.getElem?_eq_getElem (by omega)⟩
      obtain ⟨d, hd⟩ := hd
      obtain ⟨b43, o44, _, he46, hc45, hr_d⟩ := Sl.elem (b_f3.up ((((le4.trans le10).trans le16).trans le24).trans le33)) hd
      obtain ⟨v47, rfl, f48⟩ := hr_d
      have f48_b := f48.le
      refine u_index_el he46 X X (hk := X) (hu := Tryz.underlying29) (hz := Tryz.sizeOf82) X<|u_field_addr X Tryz.underlying82 X Tryz.sizeOf73 X X<|zg X X (fun _ hC => (r_load_cellsN (j := 0) hC.sub hc45 (us := [.int .i64 (d.at_.chapter), .int .i64 (d.at_.line), .int .i64 (d.at_.word)]) X X Tryz.isAgg73 Tryz.sizeOf73 X X))<|zg X X (fun _ _ => (r_stneq X X Tryz.eqGuardType73 (Tryz.eq_Place c.at_ d.at_)))<|u_mvB X X ?_
      refine zS (d := 59) rfl (fun g49 => ?_) (fun g49 => ?_)
      ·
       replace g49 := of_decide_eq_true g49
       refine E X X (d := 59) X X X<|E X X (d := 59) X X X<|E X X (d := 59) X X X<|E X X (d := 59) X X X<|E X X (d := 59) X X X<|E X X (d := 59) X X X<|E X X (d := 59) X X X<|E X X (d := 59) X X X<|E X X (d := 59) X X X<|E X X (d := 59) X X X<|E X X (d := 59) X X X<|E X X (d := 59) X X X<|E X X (d := 59) X X X<|E X X (d := 59) X X X<|u_pickT (v := (.bool _)) X X X<|zG ?_
       rintro w50 ⟨h51, s52⟩
       have st53 := st34.call0 s52
       refine U ?_
       refine zk rfl (fun c54 => ?_) (fun c54 => ?_)
       ·
        refine W.sr<|v_asB X X<|Z<|zm<|zl<|za<|za<|zl<|za<|zb Tryz.results17 ?_
        refine ⟨h51, _, rfl, st53.done, ?_⟩
        refine zf ?_
        have q1 : c ≠ d := by
         rintro rfl
         simp_all
        have q : a ≠ b := fun e_ => ne_of_get hc hd q1 (by rw [e_])
        simp [q]
       ·
        cases c54
      ·
       replace g49 := of_decide_eq_false g49
       refine O X X (d := 59) X<|u_field_addr X Tryz.underlying32 X Tryz.sizeOf29 X X<|O X X (d := 59) X<|zg X X (fun _ hC => (zc (j := 3) hC.sub (hc5.up (((le10.trans le16).trans le24).trans le33)) X X X Tryz.isAgg29))<|O X X (d := 59) X<|u_mvI X X<|O X X (d := 59) X<|u_index_el he40 X X (hk := X) (hu := Tryz.underlying29) (hz := Tryz.sizeOf82) X<|O X X (d := 59) X<|u_field_addr X Tryz.underlying82 X Tryz.sizeOf80 X X<|O X X (d := 59) X<|zg X X (fun _ hC => (zc (j := 3) hC.sub hc39 X X X Tryz.isAgg80))<|O X X (d := 59) X<|u_field_addr X Tryz.underlying32 X Tryz.sizeOf29 X X<|O X X (d := 59) X<|zg X X (fun _ hC => (zc (j := 3) hC.sub (hc11.up ((le16.trans le24).trans le33)) X X X Tryz.isAgg29))<|O X X (d := 59) X<|u_mvI X X<|O X X (d := 59) X<|u_index_el he46 X X (hk := X) (hu := Tryz.underlying29) (hz := Tryz.sizeOf82) X<|O X X (d := 59) X<|u_field_addr X Tryz.underlying82 X Tryz.sizeOf80 X X<|O X X (d := 59) X<|zg X X (fun _ hC => (zc (j := 3) hC.sub hc45 X X X Tryz.isAgg80))<|O X X (d := 59) X<|zW X X (fun _ => zP X Tryz.call59 X) (fun _ hC => Rets.quiet hC (c_postilref04_SameHeads hC.sub f42 f48))<|O X X (d := 59) X<|u_not X X<|u_pickF (v := (.bool _)) X X X<|zG ?_
       rintro w55 ⟨h56, s57⟩
       have st58 := st34.call0 s57
       refine U ?_
       refine zk rfl (fun c59 => ?_) (fun c59 => ?_)
       ·
        refine W.sr<|v_asB X X<|Z<|zm<|zl<|za<|za<|zl<|za<|zb Tryz.results17 ?_
        refine ⟨h56, _, rfl, st58.done, ?_⟩
        refine zf ?_
        have q1 : c ≠ d := by
         rintro rfl
         simp_all
        have q : a ≠ b := fun e_ => ne_of_get hc hd q1 (by rw [e_])
        simp [q]
       ·
        refine zq<|zy<|U<|zo<|v_mvI X X<|v_add X X t_om X<|v_asI X X<|Z ?_
        refine ⟨⟨i + 1, h56⟩, ⟨rfl, trivial⟩, ?_, ⟨(le33.trans s57.le), st58, ?_, ?_⟩, ?_⟩
        ·exact zL
        ·first | omega | (simp; omega)
        ·exact eq_take_succ he hc hd (by rcases c with ⟨c1, c2⟩; rcases d with ⟨d1, d2⟩; simp_all)
        ·show a.questions.length - ((i + 1)) < a.questions.length - i
         omega
     ·
      replace c36 := of_decide_eq_false c36
      refine zM<|zh<|zh<|zF<|U<|zj<|W.sr<|v_asI X X<|Z<|zt ?_
      refine zJ [4, 6, 75, 76, 77, 78, 79, 80, 81, 82, 83, 84, 85, 86, 87, 88, 89, 90, 91, 92, 93, 94, 95, 96, 97, 98, 99, 100, 101, 102, 103, 104, 105, 106, 107, 108, 109, 110, 111, 112, 113, 114, 115, 116, 117, 118, 119, 120, 121, 122, 123, 124, 125] (G := Nat × Heap) (fun ⟨k, h60⟩ => [(6, .int .i64 (k : Int))]) (fun ⟨k, h60⟩ w' => Le h32 h60 ∧ St h w h60 w' [] ∧ (k ≤ a.voters.length) ∧ (a.voters.take k = b.voters.take k)) (fun ⟨k, h60⟩ => a.voters.length - k) ⟨0, h32⟩ ⟨rfl, trivial⟩ ⟨Le.refl _, st34, zO, zO⟩ ?_
      rintro ⟨k, h60⟩ _ w63 ⟨le61, st62, hk, hf⟩
      refine zj<|W.sr<|v_mvI X X<|v_field_addr X Tryz.underlying32 X Tryz.sizeOf30 X X<|v_load_cells1 (j := 4) st62.sub (hc5.up ((((le10.trans le16).trans le24).trans le33).trans le61)) X X X Tryz.isAgg30 X<|v_len (a_f4.up (((((le4.trans le10).trans le16).trans le24).trans le33).trans le61)) X Tryz.underlying30 X<|v_lss X X X<|Z ?_
      refine zk rfl (fun c64 => ?_) (fun c64 => ?_)
      ·
       replace c64 := of_decide_eq_true c64
       refine zq<|U<|zj<|zt<|zj<|zT Tryz.mixed t_kr (Cls h60 _) (Cls.drew st62)<|u_field_addr X Tryz.underlying32 X Tryz.sizeOf30 X X<|zg X X (fun _ hC => (zc (j := 4) hC.sub (hc5.up ((((le10.trans le16).trans le24).trans le33).trans le61)) X X X Tryz.isAgg30))<|u_mvI X X ?_
       have hv : ∃ y_, (a.voters)[k]? = some y_ := ⟨_, List.getElem?_eq_getElem (by omega)⟩
       obtain ⟨v, hv⟩ := hv
       obtain ⟨b65, o66, _, he68, hc67, hr_v⟩ := Sl.elem (a_f4.up (((((le4.trans le10).trans le16).trans le24).trans le33).trans le61)) hv
       obtain ⟨v69, rfl, f70⟩ := hr_v
       have f70_b := f70.le
       refine u_index_el he68 X X (hk := X) (hu := Tryz.underlying30) (hz := Tryz.sizeOf84) X<|u_field_addr X Tryz.underlying84 X Tryz.sizeOf3 X X<|zg X X (fun _ hC => (zc (j := 0) hC.sub hc67 X X X Tryz.isAgg3))<|u_field_addr X Tryz.underlying32 X Tryz.sizeOf30 X X<|zg X X (fun _ hC => (zc (j := 4) hC.sub (hc11.up (((le16.trans le24).trans le33).trans le61)) X X X Tryz.isAgg30))<|u_mvI X X ?_
       have hu : ∃ y_, (b.voters)[k]? = some y_ := ⟨_, List.getElem?_eq_getElem (by omega)⟩
       obtain ⟨u, hu⟩ := hu
       obtain ⟨b71, o72, _, he74, hc73, hr_u⟩ := Sl.elem (b_f4.up (((((le4.trans le10).trans le16).trans le24).trans le33).trans le61)) hu
       obtain ⟨v75, rfl, f76⟩ := hr_u
       have f76_b := f76.le
       refine u_index_el he74 X X (hk := X) (hu := Tryz.underlying30) (hz := Tryz.sizeOf84) X<|u_field_addr X Tryz.underlying84 X Tryz.sizeOf3 X X<|zg X X (fun _ hC => (zc (j := 0) hC.sub hc73 X X X Tryz.isAgg3))<|u_neq X X X<|u_mvB X X ?_
       refine zS (d := 95) rfl (fun g77 => ?_) (fun g77 => ?_)
       ·
        replace g77 := of_decide_eq_true g77
        refine E X X (d := 95) X X X<|E X X (d := 95) X X X<|E X X (d := 95) X X X<|E X X (d := 95) X X X<|E X X (d := 95) X X X<|E X X (d := 95) X X X<|E X X (d := 95) X X X<|E X X (d := 95) X X X<|E X X (d := 95) X X X<|E X X (d := 95) X X X<|E X X (d := 95) X X X<|E X X (d := 95) X X X<|E X X (d := 95) X X X<|u_pickT (v := (.bool _)) X X X<|u_mvB X X<|E X X (d := 110) X X X<|E X X (d := 110) X X X<|E X X (d := 110) X X X<|E X X (d := 110) X X X<|E X X (d := 110) X X X<|E X X (d := 110) X X X<|E X X (d := 110) X X X<|E X X (d := 110) X X X<|E X X (d := 110) X X X<|E X X (d := 110) X X X<|E X X (d := 110) X X X<|E X X (d := 110) X X X<|E X X (d := 110) X X X<|E X X (d := 110) X X X<|u_pickT (v := (.bool _)) X X X ?_
        refine zG ?_
        rintro w78 ⟨h79, s80⟩
        have st81 := st62.call0 s80
        refine U ?_
        refine zk rfl (fun c82 => ?_) (fun c82 => ?_)
        ·
         refine W.sr<|v_asB X X<|Z<|zm<|zl<|za<|za<|zl<|za<|zb Tryz.results17 ?_
         refine ⟨h79, _, rfl, st81.done, ?_⟩
         refine zf ?_
         have q1 : v ≠ u := by
          rintro rfl
          simp_all
         have q : a ≠ b := fun e_ => ne_of_get hv hu q1 (by rw [e_])
         simp [q]
        ·
         cases c82
       ·
        replace g77 := of_decide_eq_false g77
        refine O X X (d := 95) X<|u_field_addr X Tryz.underlying32 X Tryz.sizeOf30 X X<|O X X (d := 95) X<|zg X X (fun _ hC => (zc (j := 4) hC.sub (hc5.up ((((le10.trans le16).trans le24).trans le33).trans le61)) X X X Tryz.isAgg30))<|O X X (d := 95) X<|u_mvI X X<|O X X (d := 95) X<|u_index_el he68 X X (hk := X) (hu := Tryz.underlying30) (hz := Tryz.sizeOf84) X<|O X X (d := 95) X<|u_field_addr X Tryz.underlying84 X Tryz.sizeOf3 X X<|O X X (d := 95) X<|zg X X (fun _ hC => (zc (j := 1) hC.sub hc67 X X X Tryz.isAgg3))<|O X X (d := 95) X<|u_field_addr X Tryz.underlying32 X Tryz.sizeOf30 X X<|O X X (d := 95) X<|zg X X (fun _ hC => (zc (j := 4) hC.sub (hc11.up (((le16.trans le24).trans le33).trans le61)) X X X Tryz.isAgg30))<|O X X (d := 95) X<|u_mvI X X<|O X X (d := 95) X<|u_index_el he74 X X (hk := X) (hu := Tryz.underlying30) (hz := Tryz.sizeOf84) X<|O X X (d := 95) X<|u_field_addr X Tryz.underlying84 X Tryz.sizeOf3 X X<|O X X (d := 95) X<|zg X X (fun _ hC => (zc (j := 1) hC.sub hc73 X X X Tryz.isAgg3))<|O X X (d := 95) X<|u_neq X X X<|u_pickF (v := (.bool _)) X X X<|u_mvB X X ?_
        refine zS (d := 110) rfl (fun g83 => ?_) (fun g83 => ?_)
        ·
         replace g83 := of_decide_eq_true g83
         refine E X X (d := 110) X X X<|E X X (d := 110) X X X<|E X X (d := 110) X X X<|E X X (d := 110) X X X<|E X X (d := 110) X X X<|E X X (d := 110) X X X<|E X X (d := 110) X X X<|E X X (d := 110) X X X<|E X X (d := 110) X X X<|E X X (d := 110) X X X<|E X X (d := 110) X X X<|E X X (d := 110) X X X<|E X X (d := 110) X X X<|E X X (d := 110) X X X<|u_pickT (v := (.bool _)) X X X<|zG ?_
         rintro w84 ⟨h85, s86⟩
         have st87 := st62.call0 s86
         refine U ?_
         refine zk rfl (fun c88 => ?_) (fun c88 => ?_)
         ·
          refine W.sr<|v_asB X X<|Z<|zm<|zl<|za<|za<|zl<|za<|zb Tryz.results17 ?_
          refine ⟨h85, _, rfl, st87.done, ?_⟩
          refine zf ?_
          have q1 : v ≠ u := by
           rintro rfl
           simp_all
          have q : a ≠ b := fun e_ => ne_of_get hv hu q1 (by rw [e_])
          simp [q]
         ·
          cases c88
        ·
         replace g83 := of_decide_eq_false g83
         refine O X X (d := 110) X<|u_field_addr X Tryz.underlying32 X Tryz.sizeOf30 X X<|O X X (d := 110) X<|zg X X (fun _ hC => (zc (j := 4) hC.sub (hc5.up ((((le10.trans le16).trans le24).trans le33).trans le61)) X X X Tryz.isAgg30))<|O X X (d := 110) X<|u_mvI X X<|O X X (d := 110) X<|u_index_el he68 X X (hk := X) (hu := Tryz.underlying30) (hz := Tryz.sizeOf84) X<|O X X (d := 110) X<|u_field_addr X Tryz.underlying84 X Tryz.sizeOf42 X X<|O X X (d := 110) X<|zg X X (fun _ hC => (zc (j := 2) hC.sub hc67 X X X Tryz.isAgg42))<|O X X (d := 110) X<|u_field_addr X Tryz.underlying32 X Tryz.sizeOf30 X X<|O X X (d := 110) X<|zg X X (fun _ hC => (zc (j := 4) hC.sub (hc11.up (((le16.trans le24).trans le33).trans le61)) X X X Tryz.isAgg30))<|O X X (d := 110) X<|u_mvI X X<|O X X (d := 110) X<|u_index_el he74 X X (hk := X) (hu := Tryz.underlying30) (hz := Tryz.sizeOf84) X<|O X X (d := 110) X<|u_field_addr X Tryz.underlying84 X Tryz.sizeOf42 X X<|O X X (d := 110) X<|zg X X (fun _ hC => (zc (j := 2) hC.sub hc73 X X X Tryz.isAgg42))<|O X X (d := 110) X<|zW X X (fun _ => zP X Tryz.call12 X) (fun _ hC => Rets.quiet hC (c_postilref07_SameInts hC.sub f70 f76))<|O X X (d := 110) X<|u_not X X<|u_pickF (v := (.bool _)) X X X<|zG ?_
         rintro w89 ⟨h90, s91⟩
         have st92 := st62.call0 s91
         refine U ?_
         refine zk rfl (fun c93 => ?_) (fun c93 => ?_)
         ·
          refine W.sr<|v_asB X X<|Z<|zm<|zl<|za<|za<|zl<|za<|zb Tryz.results17 ?_
          refine ⟨h90, _, rfl, st92.done, ?_⟩
          refine zf ?_
          have q1 : v ≠ u := by
           rintro rfl
           simp_all
          have q : a ≠ b := fun e_ => ne_of_get hv hu q1 (by rw [e_])
          simp [q]
         ·
          refine zq<|zy<|U<|zo<|v_mvI X X<|v_add X X t_om X<|v_asI X X<|Z ?_
          refine ⟨⟨k + 1, h90⟩, ⟨rfl, trivial⟩, ?_, ⟨(le61.trans s91.le), st92, ?_, ?_⟩, ?_⟩
          ·exact zL
          ·first | omega | (simp; omega)
          ·exact eq_take_succ hf hv hu (by rcases v with ⟨v1, v2, v3⟩; rcases u with ⟨u1, u2, u3⟩; simp_all)
          ·show a.voters.length - ((k + 1)) < a.voters.length - k
           omega
      ·
       replace c64 := of_decide_eq_false c64
       refine zM<|zh<|zh<|zF<|U<|W.sr<|v_asB X X<|Z<|zm<|zb Tryz.results17 ?_
       refine ⟨h60, _, rfl, st62.done, ?_⟩
       refine zf ?_
       have q1 := eq_of_take he (by omega) (by omega)
       have q2 := eq_of_take hf (by omega) (by omega)
       rcases a with ⟨a1, a2, a3, a4⟩; rcases b with ⟨b1, b2, b3, b4⟩
       simp_all
end Go.Pk

namespace Go.Pk
open Go Go.RowKit Go.Proofs
set_option maxRecDepth 4000 in
set_option maxHeartbeats 4000000 in
theorem c_postillaw07_VoteCounts {h : Heap} {w : World} (hs : Sub h w) {p : Poll} {p_v0 : Value} (p_f0 : Sl LChapter h p_v0 p.text.chapters) {p_v1 : Value} (p_f1 : Sl LRule h p_v1 p.lexicon.rules) {p_v2 : Value} (p_f2 : Sl LDecision h p_v2 p.lexicon.decisions) {p_v3 : Value} (p_f3 : Sl LQuestion h p_v3 p.questions) {p_v4 : Value} (p_f4 : Sl LVoter h p_v4 p.voters) (question : Int) (K1 : Cells h 1 0 Tryz.glob1) (K0 : Cells h 0 0 Tryz.glob0) : Calls Tryz.prog 4 #[.agg #[p_v0, p_v1, p_v2, p_v3, p_v4], .int .i64 question] w (Rets h w (fun _ _ res_ => res_ = .bool (true))) := by
 refine zA (n := 113) (args := [.agg #[p_v0, p_v1, p_v2, p_v3, p_v4], .int .i64 question]) Tryz.func4 X X X ?_
 have st0 : St h w h w [] := St.start hs
 have p_f0_b := p_f0.le
 have p_f1_b := p_f1.le
 have p_f2_b := p_f2.le
 have p_f3_b := p_f3.le
 have p_f4_b := p_f4.le
 refine W.sr<|zz st0 (cs := [p_v0, p_v1, p_v2, p_v3, p_v4]) X X X ?_
 intro b1 w2 h3 le4 hc5 st6
 refine v_asB X X<|Z<|zj<|W.sr<|v_load_call st6.sub hc5 X Tryz.isAgg32 Tryz.sizeOf32 X X<|zi st6 X X X Tryz.call6 X (c_postilref07_Great st6.sub (p := p) (p_f0.up le4) (p_f1.up le4) (p_f2.up le4) (p_f3.up le4) (p_f4.up le4)) ?_
 intro r7 w8 h9 le10 st11 q12
 obtain rfl := q12
 refine Z ?_
 refine zk rfl (fun c13 => ?_) (fun c13 => ?_)
 ·
  refine W.sr<|v_asB X X<|Z<|zm<|za<|zb Tryz.results4 ?_
  refine ⟨h9, _, rfl, st11.done, ?_⟩
  refine zf ?_
  first | rfl | (simp_all; done)
 ·
  refine zq<|U<|W.sr<|v_load_call st11.sub (hc5.up le10) X Tryz.isAgg32 Tryz.sizeOf32 X X ?_
  refine zi st11 rfl rfl rfl Tryz.call7 rfl (c_postilref07_Twin st11.sub (p := p) (p_f0.up (le4.trans le10)) (p_f1.up (le4.trans le10)) (p_f2.up (le4.trans le10)) (p_f3.up (le4.trans le10)) (p_f4.up (le4.trans le10)) (by simpa using c13)) ?_
  intro r14 w15 h16 le17 st18 q19
  obtain ⟨v20, v22, v24, v26, v28, rfl, f21, f23, f25, f27, f29⟩ := q19
  have f21_b := f21.le
  have f23_b := f23.le
  have f25_b := f25.le
  have f27_b := f27.le
  have f29_b := f29.le
  refine zI st18 Tryz.zeroValue32 X X ?_
  intro b30 w31 st32
  refine zC st32 (k := 0) X X X (zn f21.one (zn f23.one (zn f25.one (zn f27.one (zn f29.one zX))))) Tryz.sizeOf32 X X X ?_
  intro w33 st34
  obtain ⟨h35, le36, hb37, st39⟩ := st34.freeze (k := 0) rfl
  have hc38 := Cells.of hb37
  refine Z<|W.sr<|v_load_call st39.sub hc38 X Tryz.isAgg32 Tryz.sizeOf32 X X<|zi st39 X X X Tryz.call18 X (c_vote_Count st39.sub (p := (p)) (f21.up le36) (f23.up le36) (f25.up le36) (f27.up le36) (f29.up le36) (K1.up (((le4.trans le10).trans le17).trans le36)) (K0.up (((le4.trans le10).trans le17).trans le36))) ?_
  intro r40 w41 h42 le43 st44 q45
  obtain rfl := q45
  refine v_mvT X X<|v_extract (v := (.int _ _)) X X X<|v_extract (v := (.int _ _)) X X X<|v_asI X X<|v_asI X X<|Z<|W.sr<|v_load_call st44.sub (hc5.up (((le10.trans le17).trans le36).trans le43)) X Tryz.isAgg32 Tryz.sizeOf32 X X<|zi st44 X X X Tryz.call19 X (c_postilref07_Count st44.sub (p := p) (p_f0.up ((((le4.trans le10).trans le17).trans le36).trans le43)) (p_f1.up ((((le4.trans le10).trans le17).trans le36).trans le43)) (p_f2.up ((((le4.trans le10).trans le17).trans le36).trans le43)) (p_f3.up ((((le4.trans le10).trans le17).trans le36).trans le43)) (p_f4.up ((((le4.trans le10).trans le17).trans le36).trans le43))) ?_
  intro r46 w47 h48 le49 st50 q51
  obtain rfl := q51
  refine v_mvT X X<|v_extract (v := (.int _ _)) X X X<|v_extract (v := (.int _ _)) X X X<|v_asI X X<|v_asI X X<|Z<|W.sr<|v_load_call st50.sub (hc38.up (le43.trans le49)) X Tryz.isAgg32 Tryz.sizeOf32 X X<|zi st50 X X X Tryz.call20 X (c_vote_Truth st50.sub (p := (p)) (f21.up ((le36.trans le43).trans le49)) (f23.up ((le36.trans le43).trans le49)) (f25.up ((le36.trans le43).trans le49)) (f27.up ((le36.trans le43).trans le49)) (f29.up ((le36.trans le43).trans le49)) (K1.up (((((le4.trans le10).trans le17).trans le36).trans le43).trans le49)) (K0.up (((((le4.trans le10).trans le17).trans le36).trans le43).trans le49))) ?_
  intro r52 w53 h54 le55 st56 q57
  obtain ⟨v58, rfl, f59⟩ := q57
  have f59_b := f59.le
  refine v_mvT X X<|v_extract (v := v58) X X X<|v_extract (v := (.int _ _)) X X X<|v_assign (v := v58) X X<|v_asI X X<|Z<|W.sr<|v_load_call st56.sub (hc5.up (((((le10.trans le17).trans le36).trans le43).trans le49).trans le55)) X Tryz.isAgg32 Tryz.sizeOf32 X X<|zi st56 X X X Tryz.call21 X (c_postilref07_Truth st56.sub (p := p) (p_f0.up ((((((le4.trans le10).trans le17).trans le36).trans le43).trans le49).trans le55)) (p_f1.up ((((((le4.trans le10).trans le17).trans le36).trans le43).trans le49).trans le55)) (p_f2.up ((((((le4.trans le10).trans le17).trans le36).trans le43).trans le49).trans le55)) (p_f3.up ((((((le4.trans le10).trans le17).trans le36).trans le43).trans le49).trans le55)) (p_f4.up ((((((le4.trans le10).trans le17).trans le36).trans le43).trans le49).trans le55))) ?_
  intro r60 w61 h62 le63 st64 q65
  obtain ⟨v66, rfl, f67⟩ := q65
  have f67_b := f67.le
  refine v_mvT X X<|v_extract (v := v66) X X X<|v_extract (v := (.int _ _)) X X X<|v_assign (v := v66) X X<|v_asI X X<|Z<|zj<|zj<|zT Tryz.mixed t_kr (Cls h62 _) (Cls.drew st64)<|zg X X (fun _ hC => (zK hC.sub (hc38.up (((le43.trans le49).trans le55).trans le63)) X Tryz.isAgg32 Tryz.sizeOf32 X))<|zW X X (fun _ => zP X Tryz.call22 X) (fun _ hC => Rets.quiet hC (c_vote_Check hC.sub (p := (p)) (f21.up ((((le36.trans le43).trans le49).trans le55).trans le63)) (f23.up ((((le36.trans le43).trans le49).trans le55).trans le63)) (f25.up ((((le36.trans le43).trans le49).trans le55).trans le63)) (f27.up ((((le36.trans le43).trans le49).trans le55).trans le63)) (f29.up ((((le36.trans le43).trans le49).trans le55).trans le63)) (K1.up (((((((le4.trans le10).trans le17).trans le36).trans le43).trans le49).trans le55).trans le63)) (K0.up (((((((le4.trans le10).trans le17).trans le36).trans le43).trans le49).trans le55).trans le63))))<|zg X X (fun _ hC => (zK hC.sub (hc5.up ((((((le10.trans le17).trans le36).trans le43).trans le49).trans le55).trans le63)) X Tryz.isAgg32 Tryz.sizeOf32 X))<|zW X X (fun _ => zP X Tryz.call23 X) (fun _ hC => Rets.quiet hC (c_postilref07_Check hC.sub (p := p) (p_f0.up (((((((le4.trans le10).trans le17).trans le36).trans le43).trans le49).trans le55).trans le63)) (p_f1.up (((((((le4.trans le10).trans le17).trans le36).trans le43).trans le49).trans le55).trans le63)) (p_f2.up (((((((le4.trans le10).trans le17).trans le36).trans le43).trans le49).trans le55).trans le63)) (p_f3.up (((((((le4.trans le10).trans le17).trans le36).trans le43).trans le49).trans le55).trans le63)) (p_f4.up (((((((le4.trans le10).trans le17).trans le36).trans le43).trans le49).trans le55).trans le63))))<|u_neq X X X<|u_mvB X X ?_
  refine zS (d := 47) rfl (fun g68 => ?_) (fun g68 => ?_)
  ·
   replace g68 := of_decide_eq_true g68
   refine E X X (d := 47) X X X<|E X X (d := 47) X X X<|E X X (d := 47) X X X<|u_pickT (v := (.bool _)) X X X<|u_mvB X X<|E X X (d := 52) X X X<|E X X (d := 52) X X X<|E X X (d := 52) X X X<|u_pickT (v := (.bool _)) X X X<|u_mvB X X<|E X X (d := 57) X X X<|E X X (d := 57) X X X<|E X X (d := 57) X X X<|E X X (d := 57) X X X<|u_pickT (v := (.bool _)) X X X<|u_mvB X X<|E X X (d := 63) X X X<|E X X (d := 63) X X X<|E X X (d := 63) X X X<|u_pickT (v := (.bool _)) X X X<|zG ?_
   rintro w69 ⟨h70, s71⟩
   have st72 := st64.call0 s71
   refine U ?_
   refine zk rfl (fun c73 => ?_) (fun c73 => ?_)
   ·
    refine W.sr<|v_asB X X<|Z<|zm<|za<|zb Tryz.results4 ?_
    refine ⟨h70, _, rfl, st72.done, ?_⟩
    refine zf ?_
    first | rfl | (simp_all; done)
   ·
    cases c73
  ·
   replace g68 := of_decide_eq_false g68
   refine O X X (d := 47) X<|u_mvI X X<|O X X (d := 47) X<|u_mvI X X<|O X X (d := 47) X<|u_neq X X X<|u_pickF (v := (.bool _)) X X X<|u_mvB X X ?_
   refine zS (d := 52) rfl (fun g74 => ?_) (fun g74 => ?_)
   ·
    replace g74 := of_decide_eq_true g74
    refine E X X (d := 52) X X X<|E X X (d := 52) X X X<|E X X (d := 52) X X X<|u_pickT (v := (.bool _)) X X X<|u_mvB X X<|E X X (d := 57) X X X<|E X X (d := 57) X X X<|E X X (d := 57) X X X<|E X X (d := 57) X X X<|u_pickT (v := (.bool _)) X X X<|u_mvB X X<|E X X (d := 63) X X X<|E X X (d := 63) X X X<|E X X (d := 63) X X X<|u_pickT (v := (.bool _)) X X X<|zG ?_
    rintro w75 ⟨h76, s77⟩
    have st78 := st64.call0 s77
    refine U ?_
    refine zk rfl (fun c79 => ?_) (fun c79 => ?_)
    ·
     refine W.sr<|v_asB X X<|Z<|zm<|za<|zb Tryz.results4 ?_
     refine ⟨h76, _, rfl, st78.done, ?_⟩
     refine zf ?_
     first | rfl | (simp_all; done)
    ·
     cases c79
   ·
    replace g74 := of_decide_eq_false g74
    refine O X X (d := 52) X<|u_mvI X X<|O X X (d := 52) X<|u_mvI X X<|O X X (d := 52) X<|u_neq X X X<|u_pickF (v := (.bool _)) X X X<|u_mvB X X ?_
    refine zS (d := 57) rfl (fun g80 => ?_) (fun g80 => ?_)
    ·
     replace g80 := of_decide_eq_true g80
     refine E X X (d := 57) X X X<|E X X (d := 57) X X X<|E X X (d := 57) X X X<|E X X (d := 57) X X X<|u_pickT (v := (.bool _)) X X X<|u_mvB X X<|E X X (d := 63) X X X<|E X X (d := 63) X X X<|E X X (d := 63) X X X<|u_pickT (v := (.bool _)) X X X<|zG ?_
     rintro w81 ⟨h82, s83⟩
     have st84 := st64.call0 s83
     refine U ?_
     refine zk rfl (fun c85 => ?_) (fun c85 => ?_)
     ·
      refine W.sr<|v_asB X X<|Z<|zm<|za<|zb Tryz.results4 ?_
      refine ⟨h82, _, rfl, st84.done, ?_⟩
      refine zf ?_
      first | rfl | (simp_all; done)
     ·
      cases c85
    ·
     replace g80 := of_decide_eq_false g80
     refine O X X (d := 57) X<|u_move (v := v58) X X<|O X X (d := 57) X<|u_move (v := v66) X X<|O X X (d := 57) X<|zW X X (fun _ => zP X Tryz.call12 X) (fun _ hC => Rets.quiet hC (c_postilref07_SameInts hC.sub (f59.up le63) f67))<|O X X (d := 57) X<|u_not X X<|u_pickF (v := (.bool _)) X X X<|u_mvB X X ?_
     refine zS (d := 63) rfl (fun g86 => ?_) (fun g86 => ?_)
     ·
      refine E X X (d := 63) X X X<|E X X (d := 63) X X X<|E X X (d := 63) X X X<|u_pickT (v := (.bool _)) X X X<|zG ?_
      rintro w87 ⟨h88, s89⟩
      have st90 := st64.call0 s89
      refine U ?_
      refine zk rfl (fun c91 => ?_) (fun c91 => ?_)
      ·
       refine W.sr<|v_asB X X<|Z<|zm<|za<|zb Tryz.results4 ?_
       refine ⟨h88, _, rfl, st90.done, ?_⟩
       refine zf ?_
       first | rfl | (simp_all; done)
      ·
       cases c91
     ·
      refine O X X (d := 63) X<|u_mvI X X<|O X X (d := 63) X<|u_mvI X X<|O X X (d := 63) X<|u_neq X X X<|u_pickF (v := (.bool _)) X X X<|zG ?_
      rintro w92 ⟨h93, s94⟩
      have st95 := st64.call0 s94
      refine U ?_
      refine zk rfl (fun c96 => ?_) (fun c96 => ?_)
      ·
       replace c96 := of_decide_eq_true c96
       refine W.sr<|v_asB X X<|Z<|zm<|za<|zb Tryz.results4 ?_
       refine ⟨h93, _, rfl, st95.done, ?_⟩
       refine zf ?_
       first | rfl | (simp_all; done)
      ·
       replace c96 := of_decide_eq_false c96
       refine zq<|U<|W.sr<|v_load_call st95.sub (hc38.up ((((le43.trans le49).trans le55).trans le63).trans s94.le)) X Tryz.isAgg32 Tryz.sizeOf32 X X<|v_mvI X X<|zi st95 X X X Tryz.call24 X (c_vote_Open st95.sub (p := (p)) (f21.up (((((le36.trans le43).trans le49).trans le55).trans le63).trans s94.le)) (f23.up (((((le36.trans le43).trans le49).trans le55).trans le63).trans s94.le)) (f25.up (((((le36.trans le43).trans le49).trans le55).trans le63).trans s94.le)) (f27.up (((((le36.trans le43).trans le49).trans le55).trans le63).trans s94.le)) (f29.up (((((le36.trans le43).trans le49).trans le55).trans le63).trans s94.le)) _ (K1.up ((((((((le4.trans le10).trans le17).trans le36).trans le43).trans le49).trans le55).trans le63).trans s94.le)) (K0.up ((((((((le4.trans le10).trans le17).trans le36).trans le43).trans le49).trans le55).trans le63).trans s94.le))) ?_
       intro r97 w98 h99 le100 st101 q102
       obtain ⟨v103, rfl, f104⟩ := q102
       have f104_b := f104.le
       refine v_mvT X X<|v_extract (v := v103) X X X<|v_extract (v := (.int _ _)) X X X<|v_assign (v := v103) X X<|v_asI X X<|Z<|W.sr<|v_load_call st101.sub (hc5.up ((((((((le10.trans le17).trans le36).trans le43).trans le49).trans le55).trans le63).trans s94.le).trans le100)) X Tryz.isAgg32 Tryz.sizeOf32 X X<|v_mvI X X<|zi st101 X X X Tryz.call25 X (c_postilref07_Open st101.sub (p := p) (p_f0.up (((((((((le4.trans le10).trans le17).trans le36).trans le43).trans le49).trans le55).trans le63).trans s94.le).trans le100)) (p_f1.up (((((((((le4.trans le10).trans le17).trans le36).trans le43).trans le49).trans le55).trans le63).trans s94.le).trans le100)) (p_f2.up (((((((((le4.trans le10).trans le17).trans le36).trans le43).trans le49).trans le55).trans le63).trans s94.le).trans le100)) (p_f3.up (((((((((le4.trans le10).trans le17).trans le36).trans le43).trans le49).trans le55).trans le63).trans s94.le).trans le100)) (p_f4.up (((((((((le4.trans le10).trans le17).trans le36).trans le43).trans le49).trans le55).trans le63).trans s94.le).trans le100)) _) ?_
       intro r105 w106 h107 le108 st109 q110
       obtain ⟨v111, rfl, f112⟩ := q110
       have f112_b := f112.le
       refine v_mvT X X<|v_extract (v := v111) X X X<|v_extract (v := (.int _ _)) X X X<|v_assign (v := v111) X X<|v_asI X X<|Z<|W.sr<|v_load_call st109.sub (hc38.up ((((((le43.trans le49).trans le55).trans le63).trans s94.le).trans le100).trans le108)) X Tryz.isAgg32 Tryz.sizeOf32 X X<|zi st109 X X X Tryz.call26 X (c_vote_Settled st109.sub (p := (p)) (f21.up (((((((le36.trans le43).trans le49).trans le55).trans le63).trans s94.le).trans le100).trans le108)) (f23.up (((((((le36.trans le43).trans le49).trans le55).trans le63).trans s94.le).trans le100).trans le108)) (f25.up (((((((le36.trans le43).trans le49).trans le55).trans le63).trans s94.le).trans le100).trans le108)) (f27.up (((((((le36.trans le43).trans le49).trans le55).trans le63).trans s94.le).trans le100).trans le108)) (f29.up (((((((le36.trans le43).trans le49).trans le55).trans le63).trans s94.le).trans le100).trans le108)) (K1.up ((((((((((le4.trans le10).trans le17).trans le36).trans le43).trans le49).trans le55).trans le63).trans s94.le).trans le100).trans le108)) (K0.up ((((((((((le4.trans le10).trans le17).trans le36).trans le43).trans le49).trans le55).trans le63).trans s94.le).trans le100).trans le108))) ?_
       intro r113 w114 h115 le116 st117 q118
       obtain ⟨v119, rfl, f120⟩ := q118
       have f120_b := f120.le
       refine v_mvT X X<|v_extract (v := v119) X X X<|v_extract (v := (.int _ _)) X X X<|v_assign (v := v119) X X<|v_asI X X<|Z<|W.sr<|v_load_call st117.sub (hc5.up ((((((((((le10.trans le17).trans le36).trans le43).trans le49).trans le55).trans le63).trans s94.le).trans le100).trans le108).trans le116)) X Tryz.isAgg32 Tryz.sizeOf32 X X<|zi st117 X X X Tryz.call27 X (c_postilref07_Settled st117.sub (p := p) (p_f0.up (((((((((((le4.trans le10).trans le17).trans le36).trans le43).trans le49).trans le55).trans le63).trans s94.le).trans le100).trans le108).trans le116)) (p_f1.up (((((((((((le4.trans le10).trans le17).trans le36).trans le43).trans le49).trans le55).trans le63).trans s94.le).trans le100).trans le108).trans le116)) (p_f2.up (((((((((((le4.trans le10).trans le17).trans le36).trans le43).trans le49).trans le55).trans le63).trans s94.le).trans le100).trans le108).trans le116)) (p_f3.up (((((((((((le4.trans le10).trans le17).trans le36).trans le43).trans le49).trans le55).trans le63).trans s94.le).trans le100).trans le108).trans le116)) (p_f4.up (((((((((((le4.trans le10).trans le17).trans le36).trans le43).trans le49).trans le55).trans le63).trans s94.le).trans le100).trans le108).trans le116))) ?_
       intro r121 w122 h123 le124 st125 q126
       obtain ⟨v127, rfl, f128⟩ := q126
       have f128_b := f128.le
       refine v_mvT X X<|v_extract (v := v127) X X X<|v_extract (v := (.int _ _)) X X X<|v_assign (v := v127) X X<|v_asI X X<|Z<|W.sr<|v_move (v := v103) X X<|v_move (v := v111) X X<|zi st125 X X X Tryz.call12 X (c_postilref07_SameInts st125.sub (f104.up ((le108.trans le116).trans le124)) (f112.up (le116.trans le124))) ?_
       intro r129 w130 h131 le132 st133 q134
       obtain rfl := q134
       refine v_mvB X X ?_
       refine zw (d := 93) rfl (fun g135 => ?_) (fun g135 => ?_)
       ·
        refine M X X (d := 93) X<|v_mvI X X<|M X X (d := 93) X<|v_mvI X X<|M X X (d := 93) X<|v_eql X X X<|v_pickT (v := (.bool _)) X X X<|v_mvB X X ?_
        refine zw (d := 98) rfl (fun g136 => ?_) (fun g136 => ?_)
        ·
         replace g136 := of_decide_eq_true g136
         refine M X X (d := 98) X<|v_move (v := v119) X X<|M X X (d := 98) X<|v_move (v := v127) X X<|M X X (d := 98) X<|zi st133 X X X Tryz.call12 X (c_postilref07_SameInts st133.sub (f120.up (le124.trans le132)) (f128.up le132)) ?_
         intro r137 w138 h139 le140 st141 q142
         obtain rfl := q142
         refine v_pickT (v := (.bool _)) X X X<|v_mvB X X ?_
         refine zw (d := 103) rfl (fun g143 => ?_) (fun g143 => ?_)
         ·
          refine M X X (d := 103) X<|v_mvI X X<|M X X (d := 103) X<|v_mvI X X<|M X X (d := 103) X<|v_eql X X X<|v_pickT (v := (.bool _)) X X X<|v_mvB X X ?_
          refine zw (d := 108) rfl (fun g144 => ?_) (fun g144 => ?_)
          ·
           replace g144 := of_decide_eq_true g144
           refine M X X (d := 108) X<|v_load_call st141.sub (hc38.up ((((((((((le43.trans le49).trans le55).trans le63).trans s94.le).trans le100).trans le108).trans le116).trans le124).trans le132).trans le140)) X Tryz.isAgg32 Tryz.sizeOf32 X X<|M X X (d := 108) X<|v_load_call st141.sub (hc5.up (((((((((((((le10.trans le17).trans le36).trans le43).trans le49).trans le55).trans le63).trans s94.le).trans le100).trans le108).trans le116).trans le124).trans le132).trans le140)) X Tryz.isAgg32 Tryz.sizeOf32 X X<|M X X (d := 108) X<|zi st141 X X X Tryz.call17 X (c_postilref07_Same st141.sub (a := (p)) (f21.up (((((((((((le36.trans le43).trans le49).trans le55).trans le63).trans s94.le).trans le100).trans le108).trans le116).trans le124).trans le132).trans le140)) (f23.up (((((((((((le36.trans le43).trans le49).trans le55).trans le63).trans s94.le).trans le100).trans le108).trans le116).trans le124).trans le132).trans le140)) (f25.up (((((((((((le36.trans le43).trans le49).trans le55).trans le63).trans s94.le).trans le100).trans le108).trans le116).trans le124).trans le132).trans le140)) (f27.up (((((((((((le36.trans le43).trans le49).trans le55).trans le63).trans s94.le).trans le100).trans le108).trans le116).trans le124).trans le132).trans le140)) (f29.up (((((((((((le36.trans le43).trans le49).trans le55).trans le63).trans s94.le).trans le100).trans le108).trans le116).trans le124).trans le132).trans le140)) (b := p) (p_f0.up ((((((((((((((le4.trans le10).trans le17).trans le36).trans le43).trans le49).trans le55).trans le63).trans s94.le).trans le100).trans le108).trans le116).trans le124).trans le132).trans le140)) (p_f1.up ((((((((((((((le4.trans le10).trans le17).trans le36).trans le43).trans le49).trans le55).trans le63).trans s94.le).trans le100).trans le108).trans le116).trans le124).trans le132).trans le140)) (p_f2.up ((((((((((((((le4.trans le10).trans le17).trans le36).trans le43).trans le49).trans le55).trans le63).trans s94.le).trans le100).trans le108).trans le116).trans le124).trans le132).trans le140)) (p_f3.up ((((((((((((((le4.trans le10).trans le17).trans le36).trans le43).trans le49).trans le55).trans le63).trans s94.le).trans le100).trans le108).trans le116).trans le124).trans le132).trans le140)) (p_f4.up ((((((((((((((le4.trans le10).trans le17).trans le36).trans le43).trans le49).trans le55).trans le63).trans s94.le).trans le100).trans le108).trans le116).trans le124).trans le132).trans le140))) ?_
           intro r145 w146 h147 le148 st149 q150
           obtain rfl := q150
           refine v_pickT (v := (.bool _)) X X X<|v_asB X X<|Z<|zm<|zb Tryz.results4 ?_
           refine ⟨h147, _, rfl, st149.done, ?_⟩
           refine zf ?_
           first | rfl | (simp_all; done)
          ·
           replace g144 := of_decide_eq_false g144
           refine Y X X X X X<|Y X X X X X<|Y X X X X X<|v_pickF (v := (.bool _)) X X X<|v_asB X X<|Z<|zm<|zb Tryz.results4 ?_
           refine ⟨h139, _, rfl, st141.done, ?_⟩
           refine zf ?_
           first | rfl | (simp_all; done)
         ·
          refine Y X X X X X<|Y X X X X X<|Y X X X X X<|v_pickF (v := (.bool _)) X X X<|v_mvB X X<|Y X X X X X<|Y X X X X X<|Y X X X X X<|v_pickF (v := (.bool _)) X X X<|v_asB X X<|Z<|zm<|zb Tryz.results4 ?_
          refine ⟨h139, _, rfl, st141.done, ?_⟩
          refine zf ?_
          first | rfl | (simp_all; done)
        ·
         replace g136 := of_decide_eq_false g136
         refine Y X X X X X<|Y X X X X X<|Y X X X X X<|v_pickF (v := (.bool _)) X X X<|v_mvB X X<|Y X X X X X<|Y X X X X X<|Y X X X X X<|v_pickF (v := (.bool _)) X X X<|v_mvB X X<|Y X X X X X<|Y X X X X X<|Y X X X X X<|v_pickF (v := (.bool _)) X X X<|v_asB X X<|Z<|zm<|zb Tryz.results4 ?_
         refine ⟨h131, _, rfl, st133.done, ?_⟩
         refine zf ?_
         first | rfl | (simp_all; done)
       ·
        refine Y X X X X X<|Y X X X X X<|Y X X X X X<|v_pickF (v := (.bool _)) X X X<|v_mvB X X<|Y X X X X X<|Y X X X X X<|Y X X X X X<|v_pickF (v := (.bool _)) X X X<|v_mvB X X<|Y X X X X X<|Y X X X X X<|Y X X X X X<|v_pickF (v := (.bool _)) X X X<|v_mvB X X<|Y X X X X X<|Y X X X X X<|Y X X X X X<|v_pickF (v := (.bool _)) X X X<|v_asB X X<|Z<|zm<|zb Tryz.results4 ?_
        refine ⟨h131, _, rfl, st133.done, ?_⟩
        refine zf ?_
        first | rfl | (simp_all; done)
end Go.Pk
