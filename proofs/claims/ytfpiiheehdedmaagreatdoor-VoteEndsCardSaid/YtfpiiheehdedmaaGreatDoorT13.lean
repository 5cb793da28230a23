/- A PART OF THE PROOF: contracts of functions, each walked once (much of it printed by a program of the author's own). -/
import Derived.Test.YtfpiiheehdedmaaGreatDoorT12
import Derived.Test.YtfpiiheehdedmaaGreatDoorT3
import Derived.Test.YtfpiiheehdedmaaGreatDoorT2
import Derived.Test.YtfpiiheehdedmaaGreatDoorT9
import Derived.Test.YtfpiiheehdedmaaGreatDoorT6
import Derived.Test.YtfpiiheehdedmaaGreatDoorT8
import Derived.Test.YtfpiiheehdedmaaGreatDoorT7
import Derived.Test.YtfpiiheehdedmaaGreatDoorT4
set_option linter.unusedSimpArgs false
set_option linter.unusedVariables false
set_option maxRecDepth 4000
namespace Go.Pk
open Go Go.RowKit Go.Proofs
theorem zhf {h : Heap} {w : World} (hs : Sub h w) {g : FuncId} {caps : List Value} {A : List (List Int) → Heap → Value → List Int → Prop} {T_ : List (List Int)} (eg : ∀ a w, (callFunc g a).run Tryz.prog w = .ok (.enter g a) w) (seq : GivesA Tryz.prog g caps A (fun xs => xs = T_) h) (hA : ∀ pre h u x, A pre h u x → Sl LInt h u x ∧ pre.length < 100000) (hT : T_.length ≤ 100000) : Calls Tryz.prog 143 #[.slice none 0 0, .func (.func g) #[] caps.toArray] w (Rets h w (fun h' _ res_ => ∃ u0, res_ = u0 ∧ Sl (LSl LInt) h' u0 (T_))) := by
 refine V.calls (n := 13) Tryz.func143 X X X<|have st0:=t_s0 hs;zdj<|zbh X<|OpsL.boxO st0 (cs := [(.slice none 0 0)]) X X X<|fun b1 w2 st3=>zcv X X<|zr<|zaK<|zdj<|zdj<|zbh X<|zO X X<|zr<|zaK<|zgV ?_
 have st4 := st3.snoc
 have f5 := OSl.nil (LSl LInt) 42 h
 refine zhw (I := fun xs h_ own_ => ∃ (v_ : Value) (o_ : List (Nat × Obj)), own_ = [[(b1, .cells (List.toArray [v_]) 91)], o_] ∧ OSl (LSl LInt) 42 h_ v_ xs o_) (Ix := fun _ _ _ _ => False) st4 rfl eg rfl (seq _ _ _ (Le.refl _)) (by rintro xs_ h1_ h2_ o1_ ⟨v_, o_, rfl, q_⟩ l_; exact ⟨v_, o_, rfl, q_.up l_⟩) (by intro _ _ _ _ _ h_ _; exact h_) ⟨.slice none 0 0, [], rfl, by exact OSl.nil (LSl LInt) 42 _⟩ ?_ ?_ ?_
 ·rintro l_ pre x h6 w7 _ tail u8 le9 ⟨v_, o_, rfl, hi11⟩ st10 hA12
  have hpl := (hA _ _ _ _ hA12).2
  refine zbh X<|zaa (v := u8) X X<|zr ?_
  refine APost.mk (own2 := [[(b1, .cells (List.toArray [v_]) 91)], o_]) (Le.refl _) st10 ?_
  intro tail15 w14 st13
  refine zgV<|zbh X<|zbR (st13.get (k := 0) X) X X zeO X<|zO (v := u8) X X ?_
  refine zae (L := (LSl LInt)) (xs := [x]) (cs := [u8]) st13 (Enc.cons (L := (LSl LInt)) (vs := [u8]) (x := x) (h := h6) (⟨_, rfl, (hA _ _ _ _ hA12).1⟩) Enc.nil) rfl rfl rfl zap Tryz.info42 rfl rfl rfl (by obtain ⟨_, _, rfl⟩ := Sl.form (hA _ _ _ _ hA12).1; kernel_rfl) ?_
  intro v16 w17 h20 le21 f18 st19
  refine zcN (k := 1) (nb := 24) st19 (hi11.up le21) rfl f18 rfl rfl rfl zap Tryz.info42 rfl rfl rfl (by decide) rfl (by simp only [List.length_append, List.length_cons, List.length_nil]; omega) (by simp only [List.length_append, List.length_cons, List.length_nil]; omega) ?_
  intro v22 o23 w24 _ e25 f26 st27
  subst e25
  refine zaM st27 (k := 0) X X (v := v22) X f26.one Tryz.sizeOf91 X X X<|fun w28 st29=>zr<|zdg ?_
  refine zdT (own3 := [[(b1, .cells (List.toArray [v22]) 91)], o23]) le21 st29 ⟨v22, o23, ?_, ?_⟩
  ·rfl
  ·exact OSl.to f26 rfl
 ·rintro D30 xs h31 w32 _ le33 hS34 ⟨v_, o_, rfl, hi35⟩ st36
  have hxe := hS34
  refine zdg<|zaK<|zdj<|zbh X<|zbR (st36.get (k := 0) X) X X zeO X<|zaa (v := v_) X X<|zr<|zaK<|V.ret<|zhA (own := [[(b1, .cells (List.toArray [v_]) 91)], o_]) st36<|fun w38 st37=>zb Tryz.results143 ?_
  obtain ⟨h39, le40, f41, st42⟩ := OSl.freeze (k := 1) st37 hi35 rfl (by rw [hxe]; omega)
  refine ⟨h39, _, rfl, st42.done, ?_⟩
  refine ⟨_, rfl, Sl.to f41 ?_⟩
  exact hS34
 intro _ _ _ _ _ _ _ hf_; exact hf_.elim
theorem c_slices_Collect_Lint {h : Heap} {w : World} (hs : Sub h w) {g : FuncId} {caps : List Value} {A : List (List Int) → Heap → Value → List Int → Prop} {T_ : List (List Int)} (eg : ∀ a w, (callFunc g a).run Tryz.prog w = .ok (.enter g a) w) (seq : GivesA Tryz.prog g caps A (fun xs => xs = T_) h) (hA : ∀ pre h u x, A pre h u x → Sl LInt h u x ∧ pre.length < 100000) (hT : T_.length ≤ 100000) : Calls Tryz.prog 100 #[.func (.func g) #[] caps.toArray] w (Rets h w (fun h' _ res_ => ∃ u0, res_ = u0 ∧ Sl (LSl LInt) h' u0 (T_))) := by
 refine zL (n := 5) Tryz.func100 X X X<|have st0:=t_s0 hs;W.sr<|zcv X X<|Y<|W.sr<|zO X X<|zg st0 X X X Tryz.call143 X (zhf st0.sub eg (seq.up (Le.refl _)) hA hT)<|fun r1 w2 h3 le4 st5 q6=> ?_
 obtain ⟨v7, e9, f8⟩ := q6
 rw [← e9] at f8
 have f8_b := f8.le
 refine zaa (v := r1) X X<|Y<|zw<|zb Tryz.results100 ?_
 refine ⟨h3, _, rfl, st5.done, ?_⟩
 refine ⟨_, rfl, Sl.to f8 ?_⟩
 rfl
theorem gives_truths {h : Heap} {p_b : Nat} {p : Poll} {p_v0 : Value} (p_f0 : Sl LChapter h p_v0 p.text.chapters) {p_v1 : Value} (p_f1 : Sl LRule h p_v1 p.lexicon.rules) {p_v2 : Value} (p_f2 : Sl LDecision h p_v2 p.lexicon.decisions) {p_v3 : Value} (p_f3 : Sl LQuestion h p_v3 p.questions) {p_v4 : Value} (p_f4 : Sl LVoter h p_v4 p.voters) (p_c : Cells h p_b 0 [p_v0, p_v1, p_v2, p_v3, p_v4]) (hp : zcF p = true) : GivesA Tryz.prog 127 [.pointer (some ⟨p_b, 0, none⟩)] (fun pre_ h_ u_ x_ => Sl LInt h_ u_ x_ ∧ (zB p)[pre_.length]? = some x_) (fun xs => xs = zB p) h := by
 intro h0 w0 h1 l1 l J Jx hm hxm hY h2 w rest l2 hJ st
 exact zgA (p := p) (p_f0.up (l1.trans l2)) (p_f1.up (l1.trans l2)) (p_f2.up (l1.trans l2)) (p_f3.up (l1.trans l2)) (p_f4.up (l1.trans l2)) (p_c.up (l1.trans l2)) hm hxm hJ (fun _ _ _ _ _ _ _ l3 a b c => hY _ _ _ _ _ _ _ (l2.trans l3) a b c) hp st
theorem zhm {h : Heap} {w : World} (hs : Sub h w) {p : Poll} {p_v0 : Value} (p_f0 : Sl LChapter h p_v0 p.text.chapters) {p_v1 : Value} (p_f1 : Sl LRule h p_v1 p.lexicon.rules) {p_v2 : Value} (p_f2 : Sl LDecision h p_v2 p.lexicon.decisions) {p_v3 : Value} (p_f3 : Sl LQuestion h p_v3 p.questions) {p_v4 : Value} (p_f4 : Sl LVoter h p_v4 p.voters) : Calls Tryz.prog 92 #[.agg #[p_v0, p_v1, p_v2, p_v3, p_v4]] w (fun e_ w' => ∃ h' bo, e_ = .returned (.func (.func 127) #[] #[.pointer (some ⟨bo, 0, none⟩)]) ∧ Le h h' ∧ St h w h' w' [] ∧ Cells h' bo 0 [p_v0, p_v1, p_v2, p_v3, p_v4]) := by
 refine zL (n := 4) Tryz.func92 X X X<|have st0:=t_s0 hs;have p_f0_b:=p_f0.le;have p_f1_b:=p_f1.le;have p_f2_b:=p_f2.le;have p_f3_b:=p_f3.le;have p_f4_b:=p_f4.le;W.sr<|zJ st0 (cs := [p_v0, p_v1, p_v2, p_v3, p_v4]) X X X<|fun b1 w2 h3 le4 hc5 st6=>zaa X X<|Y<|W.sr<|zcH X X X<|zi X X (r_asF X)<|Y<|zw<|zb Tryz.results92 ?_
 exact ⟨h3, _, rfl, le4, st6, hc5⟩
theorem c_vote_open {h : Heap} {w : World} (hs : Sub h w) {p : Poll} {p_v0 : Value} (p_f0 : Sl LChapter h p_v0 p.text.chapters) {p_v1 : Value} (p_f1 : Sl LRule h p_v1 p.lexicon.rules) {p_v2 : Value} (p_f2 : Sl LDecision h p_v2 p.lexicon.decisions) {p_v3 : Value} (p_f3 : Sl LQuestion h p_v3 p.questions) {p_v4 : Value} (p_f4 : Sl LVoter h p_v4 p.voters) (K1 : Cells h 1 0 Tryz.glob1) (K0 : Cells h 0 0 Tryz.glob0) : Calls Tryz.prog 91 #[.agg #[p_v0, p_v1, p_v2, p_v3, p_v4]] w (Rets h w (fun h' _ res_ => ∃ u0 u1 u2 u3 u4, res_ = .tuple #[.agg #[u0, u1, u2, u3, u4], .int .i64 (zcw p)] ∧ Sl LChapter h' u0 (p).text.chapters ∧ Sl LRule h' u1 (p).lexicon.rules ∧ Sl LDecision h' u2 (p).lexicon.decisions ∧ Sl LQuestion h' u3 (p).questions ∧ Sl LVoter h' u4 (p).voters)) := by
 refine zL (n := 8) Tryz.func91 X X X<|have st0:=t_s0 hs;have p_f0_b:=p_f0.le;have p_f1_b:=p_f1.le;have p_f2_b:=p_f2.le;have p_f3_b:=p_f3.le;have p_f4_b:=p_f4.le;W.sr<|zJ st0 (cs := [p_v0, p_v1, p_v2, p_v3, p_v4]) X X X<|fun b1 w2 h3 le4 hc5 st6=>zX st6 Tryz.zeroValue145 X X<|fun b7 w8 st9=>zt X X<|Y<|zm<|zbt (er := ([], [], [], [], 0)) (dsts := [4, 5, 6, 7, 3]) st9 Tryz.mixed<|zh 0 [] X t_kr t_kr X X (fun hD wD τD hL hS hO  => (zaz (hL.sub hS) hc5 X zbn zaI X)) ?_
 refine zh 1 [0] rfl t_kr t_kr rfl rfl (fun hD wD τD hL hS hO _ _ => (zbv (cs := [p_v0, p_v1, p_v2, p_v3, p_v4]) (by obtain ⟨_, _, rfl⟩ := Sl.form p_f0; obtain ⟨_, _, rfl⟩ := Sl.form p_f1; obtain ⟨_, _, rfl⟩ := Sl.form p_f2; obtain ⟨_, _, rfl⟩ := Sl.form p_f3; obtain ⟨_, _, rfl⟩ := Sl.form p_f4; kernel_rfl))) ?_
 refine zh 2 [] X t_kr t_kr X X (fun hD wD τD hL hS hO  => (zaz (hL.sub hS) hc5 X zbn zaI X)) ?_
 refine zaF 3 (.det (.int .i64 (zcw (p)))) [0] rfl t_kr t_kr ?_ ?_
 ·
  intro hD wD τD hL hS hO _ _
  have st10 := St.start hS
  refine zg st10 X X X Tryz.call40 X (c_vote_Check st10.sub (p := p) (p_f0.up (le4.trans hL)) (p_f1.up (le4.trans hL)) (p_f2.up (le4.trans hL)) (p_f3.up (le4.trans hL)) (p_f4.up (le4.trans hL)) (K1.up (le4.trans hL)) (K0.up (le4.trans hL)))<|fun r11 w12 h13 le14 st15 q16=> ?_
  obtain rfl := q16
  exact zr ⟨_, _, rfl, st15, (), rfl, trivial⟩
 refine zcz<|zh 5 [4, 3, 2, 1, 0] X t_kr t_kr X X (fun hD wD τD hL hS hO _ _ _ _ _ _ _ _ => (r_asI X))<|zcj X X X X X X ⟨t_kr, X, t_kr, X, t_kr, X, X, t_kr, (zbP X zcZ)⟩<|fun hE18 w19 _ le20 st21 _ _ _ _ _ _=>zN st21 (k := 0) X X X (za p_f0.one (za p_f1.one (za p_f2.one (za p_f3.one (za p_f4.one zau))))) zgf X X X<|fun w22 st23=> ?_
 obtain ⟨h24, le25, hb26, st28⟩ := st23.freeze (k := 0) rfl
 have hc27 := Cells.of hb26
 refine zr ⟨undef, rfl, _, _, le25, st28, ?_⟩
 intro hE29 w30 _ le31 st32 _ _ _ _ _ _ _ _ _ _
 refine AllDeps.fin X<|E<|zw<|Post.retcell2F Tryz.results91 X Tryz.isAgg145 zgf X st32.sub (hc27.up le31) ?_
 refine ⟨hE29, _, rfl, st32.done, ?_⟩
 refine ⟨_, _, _, _, _, tup2 ?_ (zac ?_), Sl.to (p_f0.up (((le4.trans le20).trans le25).trans le31)) ?_, Sl.to (p_f1.up (((le4.trans le20).trans le25).trans le31)) ?_, Sl.to (p_f2.up (((le4.trans le20).trans le25).trans le31)) ?_, Sl.to (p_f3.up (((le4.trans le20).trans le25).trans le31)) ?_, Sl.to (p_f4.up (((le4.trans le20).trans le25).trans le31)) ?_⟩
 all_goals rfl
theorem c_vote_Count {h : Heap} {w : World} (hs : Sub h w) {p : Poll} {p_v0 : Value} (p_f0 : Sl LChapter h p_v0 p.text.chapters) {p_v1 : Value} (p_f1 : Sl LRule h p_v1 p.lexicon.rules) {p_v2 : Value} (p_f2 : Sl LDecision h p_v2 p.lexicon.decisions) {p_v3 : Value} (p_f3 : Sl LQuestion h p_v3 p.questions) {p_v4 : Value} (p_f4 : Sl LVoter h p_v4 p.voters) (K1 : Cells h 1 0 Tryz.glob1) (K0 : Cells h 0 0 Tryz.glob0) : Calls Tryz.prog 34 #[.agg #[p_v0, p_v1, p_v2, p_v3, p_v4]] w (Rets h w (fun _ _ res_ => res_ = .tuple #[.int .i64 ((if zcw p = 0 then ((zB p).length : Int) else 0)), .int .i64 (zcw p)])) := by
 refine V.calls (n := 21) Tryz.func34 X X X<|have st0:=t_s0 hs;have p_f0_b:=p_f0.le;have p_f1_b:=p_f1.le;have p_f2_b:=p_f2.le;have p_f3_b:=p_f3.le;have p_f4_b:=p_f4.le;zdj<|zbh X<|zJ st0 (cs := [p_v0, p_v1, p_v2, p_v3, p_v4]) X X X<|fun b1 w2 h3 le4 hc5 st6=>zt X X<|zt X X<|zr<|zaK<|zdj<|zbh X<|zz st6.sub hc5 X zbn zaI X X<|zg st6 X X X Tryz.call91 X (c_vote_open st6.sub (p := p) (p_f0.up le4) (p_f1.up le4) (p_f2.up le4) (p_f3.up le4) (p_f4.up le4) (K1.up le4) (K0.up le4))<|fun r7 w8 h9 le10 st11 q12=> ?_
 obtain ⟨v13, v15, v17, v19, v21, rfl, f14, f16, f18, f20, f22⟩ := q12
 have f14_b := f14.le
 have f16_b := f16.le
 have f18_b := f18.le
 have f20_b := f20.le
 have f22_b := f22.le
 refine zcE X X<|zM (v := (.agg (List.toArray _))) X X X<|zM (v := (.int _ _)) X X X<|zX st11 Tryz.zeroValue145 X X<|fun b23 w24 st25=>zN st25 (k := 0) X X X (za f14.one (za f16.one (za f18.one (za f20.one (za f22.one zau))))) zgf X X X<|fun w26 st27=> ?_
 obtain ⟨h28, le29, hb30, st32⟩ := st27.freeze (k := 0) rfl
 have hc31 := Cells.of hb30
 refine zt X X<|zr<|zaK<|zdj<|zdj<|zbh X<|zf X X<|zcA X X X<|zr<|zaK ?_
 refine V.cond rfl (fun c33 => ?_) (fun c33 => ?_)
 ·
  replace c33 := t_ot c33
  refine zdj<|zbh X<|zf X X<|zt X X<|zt X X<|zr<|zaK<|V.ret<|ThenV.ret<|PostV.zero<|zaY Tryz.results34 ?_
  refine ⟨h28, _, rfl, st32.done, ?_⟩
  refine tup2 (zac ?_) (zac ?_)
  all_goals simp_all
 replace c33 := t_of c33
 refine V.skip<|zaK<|zdj ?_
 have hk1 : zcw p = 0 := by simpa using c33
 have hpb := (zbY hk1).2
 have htl := zen hpb
 refine zbh X<|zX st32 Tryz.zeroValue3 X X<|fun b34 w35 st36=>zaM st36 (k := 1) X X X X zn X X X<|fun w37 st38=>zr<|zaK<|zdj<|zdj<|zbh X<|zz st38.sub hc31 X Tryz.isAgg145 zgf X X ?_
 refine zaB rfl rfl (zaV rfl Tryz.call92 rfl) ((zhm st38.sub (p := (p)) (f14.up le29) (f16.up le29) (f18.up le29) (f20.up le29) (f22.up le29)).mono ?_)
 rintro _ w39 ⟨h40, bo41, rfl, le42, s43, hc44⟩
 refine ⟨_, rfl, ?_⟩
 have st45 := st38.call0 s43
 refine zr<|zaK<|zgV ?_
 have seq46 : GivesG Tryz.prog 127 [.pointer (some ⟨bo41, 0, none⟩)] (fun pre_ h_ us_ x_ => ∃ u_, us_ = [u_] ∧ (fun pre_ h_ u_ x_ => Sl LInt h_ u_ x_ ∧ (zB p)[pre_.length]? = some x_) pre_ h_ u_ x_) (fun xs_ => xs_ = zB p) h w h40 := by
  intro l_ J_ Jx_ hm_ hxm_ hY_ h1_ w1_ rest_ le_ hJ_ st_
  exact zgA (p := p) ((f14.up (le29.trans le42)).up le_) ((f16.up (le29.trans le42)).up le_) ((f18.up (le29.trans le42)).up le_) ((f20.up (le29.trans le42)).up le_) ((f22.up (le29.trans le42)).up le_) (hc44.up le_) hm_ hxm_ hJ_ (fun _ _ _ _ _ _ _ l2_ a_ b_ c_ => hY_ _ _ _ _ _ _ _ (le_.trans l2_) a_ b_ c_) (by exact hpb) st_
 refine zhw (I := fun xs _ own_ => own_ = [[], [(b34, .cells (List.toArray [.int .i64 (xs.length : Int)]) 3)]] ∧ xs.length ≤ xs.length) (Ix := fun _ _ _ _ => False) st45 rfl Tryz.call127 rfl seq46 (by rintro _ _ _ _ h_ _; exact h_) (by intro _ _ _ _ _ h_ _; exact h_) ⟨rfl, by exact Nat.le_refl _⟩ ?_ ?_ ?_
 ·rintro l_ pre x h47 w48 _ tail u49 le50 ⟨rfl, hi52⟩ st51 hA53
  have hxl := (List.getElem?_eq_some_iff.1 (hA53).2).1
  refine V.skip ?_
  refine APost.mk (own2 := [[], [(b34, .cells (List.toArray [.int .i64 (pre.length : Int)]) 3)]]) (Le.refl _) st51 ?_
  intro tail56 w55 st54
  refine zgV<|zbh X<|zbR (st54.get (k := 1) X) X X zA X<|zay X X t_om X<|zaM st54 (k := 1) X X X X zn X X X<|fun w57 st58=>zr<|zdg ?_
  refine zdT (own3 := [[], [(b34, .cells (List.toArray [.int .i64 ((pre.length : Int) + 1)]) 3)]]) (Le.refl _) st58 ⟨?_, ?_⟩
  ·simp
  ·exact Nat.le_refl _
 ·rintro D59 xs h60 w61 _ le62 hS63 ⟨rfl, hi64⟩ st65
  have hxe := hS63
  refine zdg<|zaK<|zdj<|zbh X<|zbR (st65.get (k := 1) X) X X zA X<|zt X X<|zt X X<|zr<|zaK<|V.ret<|zhA (own := [[], [(b34, .cells (List.toArray [.int .i64 (xs.length : Int)]) 3)]]) st65<|fun w67 st66=>zaY Tryz.results34 ?_
  refine ⟨h60, _, rfl, st66.done, ?_⟩
  refine tup2 (zac ?_) (zac ?_)
  all_goals simp_all
 intro _ _ _ _ _ _ _ hf_; exact hf_.elim
theorem zfg {h : Heap} {w : World} (hs : Sub h w) {p : Poll} {p_v0 : Value} (p_f0 : Sl LChapter h p_v0 p.text.chapters) {p_v1 : Value} (p_f1 : Sl LRule h p_v1 p.lexicon.rules) {p_v2 : Value} (p_f2 : Sl LDecision h p_v2 p.lexicon.decisions) {p_v3 : Value} (p_f3 : Sl LQuestion h p_v3 p.questions) {p_v4 : Value} (p_f4 : Sl LVoter h p_v4 p.voters) (so : Bool) (K1 : Cells h 1 0 Tryz.glob1) (K0 : Cells h 0 0 Tryz.glob0) : Calls Tryz.prog 54 #[.agg #[p_v0, p_v1, p_v2, p_v3, p_v4], .bool so] w (Rets h w (fun h' _ res_ => ∃ u0, res_ = .tuple #[u0, .int .i64 (allE p so)] ∧ Sl (LSl LInt) h' u0 ((allL p so)))) := by
 refine zL (n := 26) Tryz.func54 X X X<|have st0:=t_s0 hs;have p_f0_b:=p_f0.le;have p_f1_b:=p_f1.le;have p_f2_b:=p_f2.le;have p_f3_b:=p_f3.le;have p_f4_b:=p_f4.le;W.sr<|zJ st0 (cs := [p_v0, p_v1, p_v2, p_v3, p_v4]) X X X<|fun b1 w2 h3 le4 hc5 st6=>zcv X X<|zt X X<|Y<|W.sr<|zz st6.sub hc5 X zbn zaI X X<|zg st6 X X X Tryz.call91 X (c_vote_open st6.sub (p := p) (p_f0.up le4) (p_f1.up le4) (p_f2.up le4) (p_f3.up le4) (p_f4.up le4) (K1.up le4) (K0.up le4))<|fun r7 w8 h9 le10 st11 q12=> ?_
 obtain ⟨v13, v15, v17, v19, v21, rfl, f14, f16, f18, f20, f22⟩ := q12
 have f14_b := f14.le
 have f16_b := f16.le
 have f18_b := f18.le
 have f20_b := f20.le
 have f22_b := f22.le
 refine zcE X X<|zM (v := (.agg (List.toArray _))) X X X<|zM (v := (.int _ _)) X X X<|zX st11 Tryz.zeroValue145 X X<|fun b23 w24 st25=>zN st25 (k := 0) X X X (za f14.one (za f16.one (za f18.one (za f20.one (za f22.one zau))))) zgf X X X<|fun w26 st27=> ?_
 obtain ⟨h28, le29, hb30, st32⟩ := st27.freeze (k := 0) rfl
 have hc31 := Cells.of hb30
 refine zt X X<|Y<|zm<|W.sr<|zf X X<|zcA X X X<|Y ?_
 refine zG rfl (fun c33 => ?_) (fun c33 => ?_)
 ·
  refine W.sr<|zf X X<|zcv X X<|zt X X<|Y<|zw<|zc<|zaY Tryz.results54 ?_
  refine ⟨h28, _, rfl, st32.done, ?_⟩
  refine ⟨_, tup2 rfl (zac ?_), Sl.to (Sl.nil _ _) ?_⟩
  all_goals simp_all [allL, allE]
 refine zx<|E<|zm<|W.sr<|zU X X<|zbr X X<|Y ?_
 refine zad rfl (fun c34 => ?_) (fun c34 => ?_)
 ·
  refine W.sr<|zcv X X<|zt X X<|Y<|zw<|zc<|zaY Tryz.results54 ?_
  refine ⟨h28, _, rfl, st32.done, ?_⟩
  refine ⟨_, tup2 rfl (zac ?_), Sl.to (Sl.nil _ _) ?_⟩
  all_goals simp_all [allL, allE]
 refine zx<|E<|zm ?_
 have hk1 : zcw p = 0 := by simpa using c33
 have hpb := (zbY hk1).2
 have htl := zen hpb
 refine zl<|zz st32.sub hc31 X Tryz.isAgg145 zgf X X ?_
 refine zaB rfl rfl (zaV rfl Tryz.call92 rfl) ((zhm st32.sub (p := (p)) (f14.up le29) (f16.up le29) (f18.up le29) (f20.up le29) (f22.up le29)).mono ?_)
 rintro _ w35 ⟨h36, bo37, rfl, le38, s39, hc40⟩
 refine ⟨_, rfl, ?_⟩
 have st41 := st32.call0 s39
 refine zg st41 rfl rfl rfl Tryz.call100 rfl (c_slices_Collect_Lint st41.sub Tryz.call127 (gives_truths (p := p) (f14.up (le29.trans le38)) (f16.up (le29.trans le38)) (f18.up (le29.trans le38)) (f20.up (le29.trans le38)) (f22.up (le29.trans le38)) hc40 hpb) (fun _ _ _ _ q_ => ⟨q_.1, by have q2_ := (List.getElem?_eq_some_iff.1 q_.2).1; omega⟩) (by omega)) ?_
 intro r42 w43 h44 le45 st46 q47
 obtain ⟨v48, e50, f49⟩ := q47
 rw [← e50] at f49
 have f49_b := f49.le
 refine zaa (v := r42) X X<|Y<|zm<|W.sr<|zO (v := r42) X X<|zaC f49 X zap X<|zcX X X X<|Y ?_
 refine zG rfl (fun c51 => ?_) (fun c51 => ?_)
 ·
  refine W.sr<|zcv X X<|zt X X<|Y<|zw<|zc<|zaY Tryz.results54 ?_
  refine ⟨h44, _, rfl, st46.done, ?_⟩
  refine ⟨_, tup2 rfl (zac ?_), Sl.to (Sl.nil _ _) ?_⟩
  all_goals simp_all [allL, allE]
 refine zx<|E<|W.sr<|zO (v := r42) X X<|zaa (v := r42) X X<|zt X X<|Y<|zw<|zaY Tryz.results54 ?_
 refine ⟨h44, _, rfl, st46.done, ?_⟩
 refine ⟨_, tup2 rfl (zac ?_), Sl.to f49 ?_⟩
 all_goals simp_all [allL, allE]
end Go.Pk

namespace Go.Pk
open Go Go.RowKit Go.Proofs
theorem c_vote_Truth {h : Heap} {w : World} (hs : Sub h w) {p : Poll} {p_v0 : Value} (p_f0 : Sl LChapter h p_v0 p.text.chapters) {p_v1 : Value} (p_f1 : Sl LRule h p_v1 p.lexicon.rules) {p_v2 : Value} (p_f2 : Sl LDecision h p_v2 p.lexicon.decisions) {p_v3 : Value} (p_f3 : Sl LQuestion h p_v3 p.questions) {p_v4 : Value} (p_f4 : Sl LVoter h p_v4 p.voters) (K1 : Cells h 1 0 Tryz.glob1) (K0 : Cells h 0 0 Tryz.glob0) : Calls Tryz.prog 39 #[.agg #[p_v0, p_v1, p_v2, p_v3, p_v4]] w (Rets h w (fun h' _ res_ => ∃ u0, res_ = .tuple #[u0, .int .i64 (allE p true)] ∧ Sl LInt h' u0 ((((allL p true)[0]?).getD [])))) := by
 refine zL (n := 17) Tryz.func39 X X X<|have st0:=t_s0 hs;have p_f0_b:=p_f0.le;have p_f1_b:=p_f1.le;have p_f2_b:=p_f2.le;have p_f3_b:=p_f3.le;have p_f4_b:=p_f4.le;W.sr<|zJ st0 (cs := [p_v0, p_v1, p_v2, p_v3, p_v4]) X X X<|fun b1 w2 h3 le4 hc5 st6=>zcv X X<|zt X X<|Y<|W.sr<|zz st6.sub hc5 X zbn zaI X X<|zg st6 X X X zhi X (zfg st6.sub (p := p) (p_f0.up le4) (p_f1.up le4) (p_f2.up le4) (p_f3.up le4) (p_f4.up le4) _ (K1.up le4) (K0.up le4))<|fun r7 w8 h9 le10 st11 q12=> ?_
 obtain ⟨v13, rfl, f14⟩ := q12
 have f14_b := f14.le
 refine zcE X X<|zM (v := v13) X X X<|zM (v := (.int _ _)) X X X<|zaa (v := v13) X X<|zt X X<|Y<|zm<|W.sr<|zf X X<|zcA X X X<|Y ?_
 refine zG rfl (fun c15 => ?_) (fun c15 => ?_)
 ·
  refine W.sr<|zf X X<|zcv X X<|zt X X<|Y<|zw<|zc<|zaY Tryz.results39 ?_
  refine ⟨h9, _, rfl, st11.done, ?_⟩
  refine ⟨_, tup2 rfl (zac ?_), Sl.to (Sl.nil _ _) ?_⟩
  all_goals simp_all [allL]
 refine zx<|E<|zm ?_
 have hz0 : allE p true = 0 := by simpa using c15
 obtain ⟨hk1, hk2, hk3, hk4⟩ := zhl hz0
 have hk5 := List.length_pos_iff.2 hk3
 have hk6 : (allL p true).length = (zB p).length := by rw [hk4]
 have hk7 := zen (zbY hk1).2
 have hk8 := zck (zbY hk1).2
 refine zl<|zO (v := v13) X X ?_
 obtain ⟨a, ha⟩ : ∃ y_, ((allL (p) (true)))[0]? = some y_ := t_ge (by omega)
 obtain ⟨b16, o17, _, he19, hc18, hr_a⟩ := Sl.elem f14 ha
 obtain ⟨v20, rfl, f21⟩ := hr_a
 have f21_b := f21.le
 refine zT he19 X X (hk := X) (hu := zap) (hz := zbs) X<|U (j := 0) st11.sub hc18 X X X zbI X<|zaa (v := v20) X X<|zt X X<|Y<|zw<|zaY Tryz.results39 ?_
 refine ⟨h9, _, rfl, st11.done, ?_⟩
 refine ⟨_, tup2 rfl (zac ?_), Sl.to f21 ?_⟩
 all_goals simp_all [allL]
theorem zhK {h : Heap} {w : World} (hs : Sub h w) {ts_v : Value} {ts : (List (List Int))} (ts_f : Sl (LSl LInt) h ts_v ts) {p_ : Nat} (hn : 0 < ts.length) (hl : ∀ t ∈ ts, t.length = p_) (hq : p_ ≤ 6) : Calls Tryz.prog 78 #[ts_v] w (Rets h w (fun h' _ res_ => ∃ u0, res_ = u0 ∧ Sl LInt h' u0 ((zcB ts)))) := by
 refine zL (n := 39) Tryz.func78 X X X<|have st0:=t_s0 hs;have ts_f_b:=ts_f.le;W.sr<|zcv X X<|Y<|zm ?_
 obtain ⟨a0, ha0⟩ : ∃ y, (ts)[0]? = some y := ⟨_, List.getElem?_eq_getElem (by omega)⟩
 refine zl<|have hla0:=hl a0 (List.mem_of_getElem? ha0);zO (v := ts_v) X X ?_
 obtain ⟨b1, o2, _, he4, hc3, hr_a0⟩ := Sl.elem ts_f ha0
 obtain ⟨v5, rfl, f6⟩ := hr_a0
 have f6_b := f6.le
 refine zT he4 X X (hk := X) (hu := zap) (hz := zbs) X<|U (j := 0) st0.sub hc3 X X X zbI X ?_
 refine zaB rfl rfl (zaV rfl Tryz.call109 rfl) ((zer st0.sub f6 (by have q2 := hl a0 (List.mem_of_getElem? ha0); omega)).mono ?_)
 rintro _ w8 ⟨h9, v7, o12, rfl, le10, s14, f13⟩
 refine ⟨_, rfl, ?_⟩
 have st11 := st0.call s14
 refine zaa (v := v7) X X<|Y<|zm<|W.sr<|zO (v := ts_v) X X<|zaC (ts_f.up le10) X zap X<|zf X X<|Y<|zH ?_
 refine zao ([5, 6, 7] ++ t_rg 14 24) (G := Nat × List (Nat × Obj) × Heap) (fun ⟨i, o_3, h15⟩ => [(14, .int .i64 (i : Int))]) (fun ⟨i, o_3, h15⟩ w' => Le h9 h15 ∧ St h w h15 w' [o_3] ∧ (OSl LInt 3 h15 v7 ((setK (ts.take i) a0)) o_3) ∧ (i ≤ ts.length)) (fun ⟨i, o_3, h15⟩ => ts.length - i) ⟨0, o12, h9⟩ ⟨rfl, trivial⟩ ⟨Le.refl _, st11, (OSl.to f13 (by (rw [setK_nil]))), zaP⟩ ?_
 rintro ⟨i, o_3, h15⟩ _ w18 ⟨le16, st17, hO_3, hi⟩
 refine W.sr<|zaO X X X<|Y<|zm ?_
 refine zG rfl (fun c19 => ?_) (fun c19 => ?_)
 ·
  refine zx<|E<|zm<|zH<|W.sr ?_
  obtain ⟨t, ht⟩ : ∃ y_, (ts)[i]? = some y_ := t_ge (by omega)
  have l24 := le10.trans le16
  obtain ⟨b20, o21, _, he23, hc22, hr_t⟩ := Sl.elem (ts_f.up l24) ht
  obtain ⟨v25, rfl, f26⟩ := hr_t
  have f26_b := f26.le
  refine zT he23 X X (hk := X) (hu := zap) (hz := zbs) X<|U (j := 0) st17.sub hc22 X X X zbI X<|zaa (v := v25) X X<|Y<|W.sr<|zO (v := v25) X X<|zaC f26 X ze X<|zf X X<|Y<|zH ?_
  refine zao ([6, 7] ++ t_rg 20 17) (G := Nat × List (Nat × Obj) × Heap) (fun ⟨k, o_3, h27⟩ => [(20, .int .i64 (k : Int))]) (fun ⟨k, o_3, h27⟩ w' => Le h15 h27 ∧ St h w h27 w' [o_3] ∧ (OSl LInt 3 h27 v7 ((setM ts a0 i k)) o_3) ∧ (k ≤ t.length)) (fun ⟨k, o_3, h27⟩ => t.length - k) ⟨0, o_3, h15⟩ ⟨rfl, trivial⟩ ⟨Le.refl _, st17, (OSl.to hO_3 (by exact (setM_zero _ _ _).symm)), zaP⟩ ?_
  rintro ⟨k, o_3, h27⟩ _ w30 ⟨le28, st29, hO_3, hk⟩
  have hml := setM_len ts a0 i k
  refine W.sr<|zaO X X X<|Y<|zm ?_
  refine zG rfl (fun c31 => ?_) (fun c31 => ?_)
  ·
   refine zx<|E<|zm<|zH<|W.sr<|zf X X ?_
   obtain ⟨x, hx⟩ : ∃ y_, (t)[k]? = some y_ := t_ge (by omega)
   obtain ⟨b32, o33, _, he35, hc34, hr_x⟩ := Sl.elem (f26.up le28) hx
   obtain rfl := hr_x
   refine zT he35 X X (hk := X) (hu := ze) (hz := zn) X<|U (j := 0) st29.sub hc34 X X X zA X<|zt X X<|zt X X<|Y<|W.sr<|zf X X<|zO (v := ts_v) X X<|zT he4 X X (hk := X) (hu := zap) (hz := zbs) X<|have l36:=l24.trans le28;U (j := 0) st29.sub (hc3.up l36) X X X zbI X<|zf X X ?_
   obtain ⟨y, hy⟩ : ∃ y_, (a0)[k]? = some y_ := t_ge (by have q1 := hl t (List.mem_of_getElem? ht); have q2 := hl a0 (List.mem_of_getElem? ha0); omega)
   obtain ⟨b37, o38, _, he40, hc39, hr_y⟩ := Sl.elem (f6.up l36) hy
   obtain rfl := hr_y
   refine zT he40 X X (hk := X) (hu := ze) (hz := zn) X<|U (j := 0) st29.sub hc39 X X X zA X<|zcA X X X<|Y ?_
   refine zG rfl (fun c41 => ?_) (fun c41 => ?_)
   ·
    refine zl<|zO (v := v7) X X<|zf X X ?_
    obtain ⟨y42, hy42⟩ : ∃ y_, ((setM ts a0 i k))[k]? = some y_ := t_ge (by rw [setM_len]; have q1 := hl t (List.mem_of_getElem? ht); have q2 := hl a0 (List.mem_of_getElem? ha0); omega)
    obtain ⟨b43, o44, cur45, _, e48, he46, hr_y42, hc47⟩ := OSl.elem hO_3 hy42
    subst e48
    obtain rfl := hr_y42
    refine zT he46 X X (hk := X) (hu := ze) (hz := zn) X ?_
    refine zek (k := 0) st29 hO_3 rfl (by rw [setM_len]; have q1 := hl t (List.mem_of_getElem? ht); have q2 := hl a0 (List.mem_of_getElem? ha0); omega) he46 rfl rfl (rfl) zn ?_
    intro o49 w50 _ e51 f52 st53
    subst e51
    refine zr<|zK<|E<|zl<|zay X X t_om X<|zf X X<|Y ?_
    refine ⟨⟨k + 1, o49, h27⟩, ⟨rfl, trivial⟩, ?_, ⟨le28, st53, ?_, ?_⟩, ?_⟩
    ·exact zal
    ·refine OSl.to f52 ?_
     exact (setM_else ht hy hx c41).symm
    ·first | omega | (simp; omega)
    show t.length - ((k + 1)) < t.length - k
    omega
   refine zx<|zK<|E<|zl<|zay X X t_om X<|zf X X<|Y ?_
   refine ⟨⟨k + 1, o_3, h27⟩, ⟨rfl, trivial⟩, ?_, ⟨le28, st29, ?_, ?_⟩, ?_⟩
   ·exact zal
   ·refine OSl.to hO_3 ?_
    exact (setM_same ht hy hx (by simpa using c41)).symm
   ·first | omega | (simp; omega)
   show t.length - ((k + 1)) < t.length - k
   omega
  refine zaA<|zo<|zo<|zak<|zK<|E<|zl<|zay X X t_om X<|zf X X<|Y ?_
  refine ⟨⟨i + 1, o_3, h27⟩, ⟨rfl, trivial⟩, ?_, ⟨(le16.trans le28), st29, ?_, ?_⟩, ?_⟩
  ·exact zal
  ·refine OSl.to hO_3 ?_
   exact setM_end (by have q1 := hl t (List.mem_of_getElem? ht); omega)
  ·first | omega | (simp; omega)
  show ts.length - ((i + 1)) < ts.length - i
  omega
 refine zaA<|zo<|zo<|zak<|E<|W.sr<|zO (v := v7) X X<|zaa (v := v7) X X<|Y<|zw<|zb Tryz.results78 ?_
 obtain ⟨h54, le55, f56, st57⟩ := OSl.freeze (k := 0) st17 hO_3 rfl (by rw [zfH]; omega)
 refine ⟨h54, _, rfl, st57.done, ?_⟩
 refine ⟨_, rfl, Sl.to f56 ?_⟩
 rw [zcB, ha0, List.take_of_length_le (by omega)]
theorem c_vote_Settled {h : Heap} {w : World} (hs : Sub h w) {p : Poll} {p_v0 : Value} (p_f0 : Sl LChapter h p_v0 p.text.chapters) {p_v1 : Value} (p_f1 : Sl LRule h p_v1 p.lexicon.rules) {p_v2 : Value} (p_f2 : Sl LDecision h p_v2 p.lexicon.decisions) {p_v3 : Value} (p_f3 : Sl LQuestion h p_v3 p.questions) {p_v4 : Value} (p_f4 : Sl LVoter h p_v4 p.voters) (K1 : Cells h 1 0 Tryz.glob1) (K0 : Cells h 0 0 Tryz.glob0) : Calls Tryz.prog 37 #[.agg #[p_v0, p_v1, p_v2, p_v3, p_v4]] w (Rets h w (fun h' _ res_ => ∃ u0, res_ = .tuple #[u0, .int .i64 (allE p true)] ∧ Sl LInt h' u0 ((zed p)))) := by
 refine zL (n := 16) Tryz.func37 X X X<|have st0:=t_s0 hs;have p_f0_b:=p_f0.le;have p_f1_b:=p_f1.le;have p_f2_b:=p_f2.le;have p_f3_b:=p_f3.le;have p_f4_b:=p_f4.le;W.sr<|zJ st0 (cs := [p_v0, p_v1, p_v2, p_v3, p_v4]) X X X<|fun b1 w2 h3 le4 hc5 st6=>zcv X X<|zt X X<|Y<|W.sr<|zz st6.sub hc5 X zbn zaI X X<|zg st6 X X X zhi X (zfg st6.sub (p := p) (p_f0.up le4) (p_f1.up le4) (p_f2.up le4) (p_f3.up le4) (p_f4.up le4) _ (K1.up le4) (K0.up le4))<|fun r7 w8 h9 le10 st11 q12=> ?_
 obtain ⟨v13, rfl, f14⟩ := q12
 have f14_b := f14.le
 refine zcE X X<|zM (v := v13) X X X<|zM (v := (.int _ _)) X X X<|zaa (v := v13) X X<|zt X X<|Y<|zm<|W.sr<|zf X X<|zcA X X X<|Y ?_
 refine zG rfl (fun c15 => ?_) (fun c15 => ?_)
 ·
  refine W.sr<|zf X X<|zcv X X<|zt X X<|Y<|zw<|zc<|zaY Tryz.results37 ?_
  refine ⟨h9, _, rfl, st11.done, ?_⟩
  refine ⟨_, tup2 rfl (zac ?_), Sl.to (Sl.nil _ _) ?_⟩
  all_goals (simp_all [zed])
 refine zx<|E<|zm ?_
 have hz0 : allE p true = 0 := by simpa using c15
 obtain ⟨hk1, hk2, hk3, hk4⟩ := zhl hz0
 have hk5 := List.length_pos_iff.2 hk3
 have hk6 : (allL p true).length = (zB p).length := by rw [hk4]
 have hk7 := zen (zbY hk1).2
 have hk8 := zck (zbY hk1).2
 refine zl<|zO (v := v13) X X ?_
 refine zg st11 rfl rfl rfl Tryz.call78 rfl (zhK st11.sub f14 (by omega) (by intro t ht_; rw [hk4] at ht_; exact zdl ht_) (by omega)) ?_
 intro r16 w17 h18 le19 st20 q21
 obtain ⟨v22, e24, f23⟩ := q21
 rw [← e24] at f23
 have f23_b := f23.le
 refine zaa (v := r16) X X<|zt X X<|Y<|zw<|zaY Tryz.results37 ?_
 refine ⟨h18, _, rfl, st20.done, ?_⟩
 refine ⟨_, tup2 rfl (zac ?_), Sl.to f23 ?_⟩
 all_goals first | (rw [zed, if_pos hz0, hk4]; done) | (simp_all [zed]; done)
theorem c_vote_Open {h : Heap} {w : World} (hs : Sub h w) {p : Poll} {p_v0 : Value} (p_f0 : Sl LChapter h p_v0 p.text.chapters) {p_v1 : Value} (p_f1 : Sl LRule h p_v1 p.lexicon.rules) {p_v2 : Value} (p_f2 : Sl LDecision h p_v2 p.lexicon.decisions) {p_v3 : Value} (p_f3 : Sl LQuestion h p_v3 p.questions) {p_v4 : Value} (p_f4 : Sl LVoter h p_v4 p.voters) (question : Int) (K1 : Cells h 1 0 Tryz.glob1) (K0 : Cells h 0 0 Tryz.glob0) : Calls Tryz.prog 36 #[.agg #[p_v0, p_v1, p_v2, p_v3, p_v4], .int .i64 question] w (Rets h w (fun h' _ res_ => ∃ u0, res_ = .tuple #[u0, .int .i64 (allE p (inB question 0 ((p.questions.length : Int) - 1)))] ∧ Sl LInt h' u0 ((openR p question)))) := by
 refine zL (n := 44) Tryz.func36 X X X<|have st0:=t_s0 hs;have p_f0_b:=p_f0.le;have p_f1_b:=p_f1.le;have p_f2_b:=p_f2.le;have p_f3_b:=p_f3.le;have p_f4_b:=p_f4.le;W.sr<|zJ st0 (cs := [p_v0, p_v1, p_v2, p_v3, p_v4]) X X X<|fun b1 w2 h3 le4 hc5 st6=>zcv X X<|zt X X<|Y<|zm<|zbt (er := ([], [], [], [], 0)) (dsts := [12, 13, 14, 15, 16, 17, 18, 19, 20, 11, 21, 22, 6, 7]) st6 Tryz.mixed<|zh 0 [] X t_kr t_kr X X (fun hD wD τD hL hS hO  => (zaz (hL.sub hS) hc5 X zbn zaI X))<|zh 1 [] X t_kr t_kr X X (fun hD wD τD hL hS hO  => (zS X zD X zbl X))<|zh 2 [0] X t_kr t_kr X X (fun hD wD τD hL hS hO _ _ => (zd (j := 3) (hL.sub hS) hc5 X X X zbx))<|zh 3 [0] X t_kr t_kr X X (fun hD wD τD hL hS hO _ _ => (r_len (p_f3.up le4) X zaq))<|zh 4 [0] X t_kr t_kr X X (fun hD wD τD hL hS hO _ _ => (r_sub X X t_om))<|zh 5 [] X t_kr t_kr X X (fun hD wD τD hL hS hO  => (zha X)) ?_
 refine zaF 6 (.res (fun h' res_ => Sl LInt h' res_ ([question])) (fun _ _ _ hl f => f.up hl)) [0] rfl t_kr t_kr ?_ ?_
 ·
  intro hD wD τD hL hS hO _ _
  have st7 := St.start hS
  refine zae (L := LInt) (xs := [question]) (cs := [.int .i64 question]) st7 (Enc.cons (L := LInt) (vs := [.int .i64 question]) (x := question) (h := hD) (X) Enc.nil) X X X ze Tryz.info3 X X X t_kr<|fun v8 w9 h12 le13 f10 st11=> ?_
  exact zr ⟨_, _, rfl, st11, _, rfl, f10⟩
 refine zaF 7 (.det (.bool ((inB question 0 ((p.questions.length : Int) - 1))))) [2, 0] rfl t_kr t_kr ?_ ?_
 ·
  intro hD wD τD hL hS hO _ _ gv6_0 gf6_0
  have st14 := St.start hS
  have con := (zeq st14.sub (lo := 0) (hi := ((p.questions.length : Int) - 1)) gf6_0)
  rw [inAll_one] at con
  refine zg st14 X X X zfk X con<|fun r15 w16 h17 le18 st19 q20=> ?_
  obtain rfl := q20
  clear con
  exact zr ⟨_, _, rfl, st19, (), rfl, trivial⟩
 refine zaF 8 (.res (fun h' res_ => ∃ gv8_0, res_ = .tuple #[gv8_0, .int .i64 (allE (p) (((inB question 0 ((p.questions.length : Int) - 1)))))] ∧ Sl (LSl LInt) h' gv8_0 ((allL (p) (((inB question 0 ((p.questions.length : Int) - 1))))))) (by rintro _ _ _ hl ⟨gv8_0, e_, gf8_0⟩; exact ⟨gv8_0, e_, gf8_0.up hl⟩)) [7, 0] rfl t_kr t_kr ?_ ?_
 ·
  intro hD wD τD hL hS hO _ _ _ _
  have st21 := St.start hS
  refine zg st21 X X X zhi X (zfg st21.sub (p := p) (p_f0.up (le4.trans hL)) (p_f1.up (le4.trans hL)) (p_f2.up (le4.trans hL)) (p_f3.up (le4.trans hL)) (p_f4.up (le4.trans hL)) _ (K1.up (le4.trans hL)) (K0.up (le4.trans hL)))<|fun r22 w23 h24 le25 st26 q27=> ?_
  obtain ⟨v28, rfl, f29⟩ := q27
  have f29_b := f29.le
  exact zr ⟨_, _, rfl, st26, _, rfl, ⟨_, rfl, f29⟩⟩
 refine zaF 9 (.res (fun h' res_ => ∃ gv9_0, res_ = .tuple #[gv9_0, .int .i64 ((allE (p) (((inB question 0 ((p.questions.length : Int) - 1))))))] ∧ Sl (LSl LInt) h' gv9_0 (((allL (p) (((inB question 0 ((p.questions.length : Int) - 1)))))))) (by rintro _ _ _ hl ⟨gv9_0, e_, gf9_0⟩; exact ⟨gv9_0, e_, gf9_0.up hl⟩)) [0] rfl t_kr t_kr ?_ ?_
 ·
  intro hD wD τD hL hS hO gv8_ gf8_
  obtain ⟨gv8_0, rfl, gf8_0⟩ := gf8_
  have st30 := St.start hS
  refine zcE X X ?_
  exact zr ⟨_, _, rfl, st30, _, rfl, ⟨_, rfl, gf8_0⟩⟩
 refine zaF 10 (.res (fun h' res_ => Sl (LSl LInt) h' res_ ((((allL (p) (((inB question 0 ((p.questions.length : Int) - 1))))))))) (fun _ _ _ hl f => f.up hl)) [0] rfl t_kr t_kr ?_ ?_
 ·
  intro hD wD τD hL hS hO gv9_ gf9_
  obtain ⟨gv9_0, rfl, gf9_0⟩ := gf9_
  have st31 := St.start hS
  refine zM (v := gv9_0) X X X ?_
  exact zr ⟨_, _, rfl, st31, _, rfl, gf9_0⟩
 refine zaF 11 (.det (.int .i64 ((allE (p) (((inB question 0 ((p.questions.length : Int) - 1)))))))) [1] rfl t_kr t_kr ?_ ?_
 ·
  intro hD wD τD hL hS hO gv9_ gf9_
  obtain ⟨gv9_0, rfl, gf9_0⟩ := gf9_
  have st32 := St.start hS
  refine zM (v := (.int _ _)) X X X ?_
  exact zr ⟨_, _, rfl, st32, (), rfl, trivial⟩
 refine zaF 12 (.res (fun h' res_ => Sl (LSl LInt) h' res_ (((((allL (p) (((inB question 0 ((p.questions.length : Int) - 1)))))))))) (fun _ _ _ hl f => f.up hl)) [11, 10, 9, 8, 7, 6, 5, 4, 3, 2, 1] rfl t_kr t_kr ?_ ?_
 ·
  intro hD wD τD hL hS hO _ _ _ _ _ _ _ _ _ _ _ _ gv6_0 gf6_0 _ _ gv8_ gf8_ gv9_ gf9_ gv10_0 gf10_0
  obtain ⟨gv8_0, rfl, gf8_0⟩ := gf8_
  obtain ⟨gv9_0, rfl, gf9_0⟩ := gf9_
  have st33 := St.start hS
  refine zaa (v := gv10_0) X X ?_
  exact zr ⟨_, _, rfl, st33, _, rfl, gf10_0⟩
 refine zh 13 [12, 11, 10, 9, 8, 7, 6, 5, 4, 3, 2, 1, 0] X t_kr t_kr X X (fun hD wD τD hL hS hO _ _ _ _ _ _ _ _ _ _ _ _ gv6_0 gf6_0 _ _ gv8_ gf8_ gv9_ gf9_ gv10_0 gf10_0 _ _ gv12_0 gf12_0 => (r_asI X))<|zcj X X X X X X ⟨t_kr, X, t_kr, X, t_kr, X, X, t_kr, zcZ⟩<|fun hE34 w35 _ le36 st37 _ _ _ _ _ _ _ _ _ _ _ _ gv6_0x38 gf6_0x38 _ _ gv8_x38 gf8_x38 gv9_x38 gf9_x38 gv10_0x38 gf10_0x38 _ _ gv12_0x38 gf12_0x38 _ _=> ?_
 obtain ⟨gv8_0x38, rfl, gf8_0x38⟩ := gf8_x38
 obtain ⟨gv9_0x38, rfl, gf9_0x38⟩ := gf9_x38
 refine AllDeps.fin X<|E<|zm<|W.sr<|zf X X<|zcA X X X<|Y ?_
 refine zG rfl (fun c39 => ?_) (fun c39 => ?_)
 ·
  refine W.sr<|zf X X<|zcv X X<|zt X X<|Y<|zw<|zc<|zaY Tryz.results36 ?_
  refine ⟨hE34, _, rfl, st37.done, ?_⟩
  refine ⟨_, tup2 rfl (zac ?_), Sl.to (Sl.nil _ _) ?_⟩
  all_goals (simp_all [openR])
 refine zx<|E<|zm ?_
 have hz0 : allE p (inB question 0 ((p.questions.length : Int) - 1)) = 0 := by simpa using c39
 obtain ⟨hk1, hk2, hk3, hk4⟩ := zhl hz0
 have hk5 := List.length_pos_iff.2 hk3
 have hk6 : (allL p (inB question 0 ((p.questions.length : Int) - 1))).length = (zB p).length := by rw [hk4]
 have hk7 := zen (zbY hk1).2
 have hk8 := zck (zbY hk1).2
 have hin : inB question 0 ((p.questions.length : Int) - 1) = true := (zhl hz0).2.1
 have hin2 : 0 ≤ question ∧ question < (p.questions.length : Int) := by simp only [inB, Bool.and_eq_true, decide_eq_true_eq] at hin; omega
 obtain ⟨q, hq⟩ : ∃ q, p.questions[question.toNat]? = some q := ⟨_, List.getElem?_eq_getElem (by omega)⟩
 have hq0 := zfQ (zbY hk1).2 hq
 refine zl<|zcv X X<|Y<|zm<|W.sr<|zO (v := gv12_0x38) X X<|zaC gf12_0x38 X zap X<|zf X X<|Y<|zH ?_
 have st43 := st37.snoc
 have f44 := OSl.nil LInt 3 hE34
 refine zao ([8, 10] ++ t_rg 28 12) (G := Nat × Value × List (Nat × Obj) × Heap) (fun ⟨i, v_8, o_8, h40⟩ => [(8, v_8), (28, .int .i64 (i : Int))]) (fun ⟨i, v_8, o_8, h40⟩ w' => Le hE34 h40 ∧ St h w h40 w' [o_8] ∧ (OSl LInt 3 h40 v_8 ((((allL p (inB question 0 ((p.questions.length : Int) - 1))).take i).map (choiceAt question.toNat))) o_8) ∧ (i ≤ (allL p (inB question 0 ((p.questions.length : Int) - 1))).length)) (fun ⟨i, v_8, o_8, h40⟩ => (allL p (inB question 0 ((p.questions.length : Int) - 1))).length - i) ⟨0, (.slice none 0 0), [], hE34⟩ ⟨rfl, rfl, trivial⟩ ⟨Le.refl _, st43, (OSl.to f44 (by rfl)), zaP⟩ ?_
 rintro ⟨i, v_8, o_8, h40⟩ _ w45 ⟨le41, st42, hO_8, hi⟩
 refine W.sr<|zaO X X X<|Y<|zm ?_
 refine zG rfl (fun c46 => ?_) (fun c46 => ?_)
 ·
  refine zx<|E<|zm<|zH<|W.sr ?_
  obtain ⟨t, ht⟩ : ∃ y_, ((((((allL (p) (((inB question 0 ((p.questions.length : Int) - 1))))))))))[i]? = some y_ := t_ge (by omega)
  obtain ⟨b47, o48, _, he50, hc49, hr_t⟩ := Sl.elem (gf12_0x38.up le41) ht
  obtain ⟨v51, rfl, f52⟩ := hr_t
  have f52_b := f52.le
  refine zT he50 X X (hk := X) (hu := zap) (hz := zbs) X<|U (j := 0) st42.sub hc49 X X X zbI X<|zaa (v := v51) X X<|Y<|zl<|zO (v := v_8) X X<|zO (v := v51) X X<|zf X X ?_
  obtain ⟨a, ha⟩ : ∃ y_, (t)[question.toNat]? = some y_ := t_ge (by have q1 := zdl (show t ∈ zB p from by rw [← hk4]; exact List.mem_of_getElem? ht); omega)
  obtain ⟨b53, o54, _, he56, hc55, hr_a⟩ := Sl.elem f52 ha
  obtain rfl := hr_a
  refine zi rfl rfl (zat he56 rfl rfl (hk := (show _ = ((question.toNat : Nat) : Int) by omega)) (hu := ze) (hz := zn)) ?_
  refine U (j := 0) st42.sub hc55 X X X zA X<|zae (L := LInt) (xs := [a]) (cs := [.int .i64 a]) st42 (Enc.cons (L := LInt) (vs := [.int .i64 a]) (x := a) (h := h40) (X) Enc.nil) X X X ze Tryz.info3 X X X t_kr<|fun v57 w58 h61 le62 f59 st60=> ?_
  refine zcN (k := 0) (nb := 8) st60 (hO_8.up le62) rfl f59 rfl rfl rfl ze Tryz.info3 rfl rfl rfl (by decide) rfl (by simp only [List.length_append, List.length_map, List.length_take, List.length_cons, List.length_nil]; omega) (by simp only [List.length_append, List.length_map, List.length_take, List.length_cons, List.length_nil]; omega) ?_
  intro v63 o64 w65 _ e66 f67 st68
  subst e66
  refine zaa (v := v63) X X<|zr<|zK<|E<|zl<|zay X X t_om X<|zf X X<|Y ?_
  refine ⟨⟨i + 1, v63, o64, h61⟩, ⟨rfl, rfl, trivial⟩, ?_, ⟨(le41.trans le62), st68, ?_, ?_⟩, ?_⟩
  ·exact zal
  ·refine OSl.to f67 ?_
   rw [zba ht, List.map_append, List.map_cons, List.map_nil, zij ha]
  ·first | omega | (simp; omega)
  show (allL p (inB question 0 ((p.questions.length : Int) - 1))).length - ((i + 1)) < (allL p (inB question 0 ((p.questions.length : Int) - 1))).length - i
  omega
 refine zaA<|zo<|zo<|zak<|E<|W.sr<|zO (v := v_8) X X ?_
 have con := sort1 (L := LInt) (T := 3) (f := 94) (fun n : Int => .int .i64 n) id rfl (fun l => l.mergeSort fun a b => decide (a ≤ b)) (fun l => List.mergeSort_perm _ _) (fun blk off cap zs w hH hb hs => Tryz.slices_Sort_int blk off cap zs w hH hb hs) (fun p cap w => Tryz.slices_Sort_int_none p cap w) (i := 0) st42 hO_8 rfl (by simp only [List.length_mergeSort, List.length_map, List.length_take]; omega)
 refine zaB rfl rfl (zaV rfl Tryz.call94 rfl) (con.mono ?_)
 rintro _ w69 ⟨rfl, o70, _, e71, f72, st73⟩
 subst e71
 refine ⟨_, rfl, ?_⟩
 clear con
 refine Y<|W.sr<|zO (v := v_8) X X ?_
 have con := zhQ (rest := []) f72 (by simp only [List.length_mergeSort, List.length_map, List.length_take]; omega) st73
 refine zaB rfl rfl (zaV rfl Tryz.call95 rfl) (con.mono ?_)
 rintro _ w74 ⟨h75, o76, v77, rfl, le78, st79, f80⟩
 refine ⟨_, rfl, ?_⟩
 clear con
 have f81 := OSl.to f80 (show _ = (zdK (zB p) question.toNat q.heads.length) from by rw [List.take_of_length_le (by omega), hk4]; exact open_sorted fun t ht_ => truth_at ht_ hq)
 refine zaa (v := v77) X X<|zt X X<|Y<|zw<|zaY Tryz.results36 ?_
 obtain ⟨h82, le83, f84, st85⟩ := OSl.freeze (k := 0) st79 f81 rfl (by have q_ := openK_len (zB p) question.toNat q.heads.length; omega)
 refine ⟨h82, _, rfl, st85.done, ?_⟩
 refine ⟨_, tup2 rfl (zac ?_), Sl.to f84 ?_⟩
 all_goals first | exact hz0.symm | (rw [openR, if_pos hz0, hq]; rfl) | (simp_all [openR]; done)
end Go.Pk

namespace Go.Pk
open Go Go.RowKit Go.Proofs
set_option maxHeartbeats 1000000 in
theorem c_postilref07_Great {h : Heap} {w : World} (hs : Sub h w) {p : Poll} {p_v0 : Value} (p_f0 : Sl LChapter h p_v0 p.text.chapters) {p_v1 : Value} (p_f1 : Sl LRule h p_v1 p.lexicon.rules) {p_v2 : Value} (p_f2 : Sl LDecision h p_v2 p.lexicon.decisions) {p_v3 : Value} (p_f3 : Sl LQuestion h p_v3 p.questions) {p_v4 : Value} (p_f4 : Sl LVoter h p_v4 p.voters) : Calls Tryz.prog 15 #[.agg #[p_v0, p_v1, p_v2, p_v3, p_v4]] w (Rets h w (fun _ _ res_ => res_ = .bool ((!zgn p)))) := by
 refine zL (n := 79) Tryz.func15 X X X<|have st0:=t_s0 hs;have p_f0_b:=p_f0.le;have p_f1_b:=p_f1.le;have p_f2_b:=p_f2.le;have p_f3_b:=p_f3.le;have p_f4_b:=p_f4.le;W.sr<|zJ st0 (cs := [p_v0, p_v1, p_v2, p_v3, p_v4]) X X X<|fun b1 w2 h3 le4 hc5 st6=>zF X X<|Y<|zm<|W.sr<|O X zD X zax X X<|zag (j := 0) st6.sub hc5 (us := [p_v0]) X X zbo zax X X X<|zg st6 X X X Tryz.call50 X (c_postilref01_Great st6.sub (t := p.text) (p_f0.up le4))<|fun r7 w8 h9 le10 st11 q12=> ?_
 obtain rfl := q12
 refine zU X X ?_
 refine zas (d := 9) rfl (fun g13 => ?_) (fun g13 => ?_)
 ·
  refine M X X X X X<|M X X X X X<|M X X X X X<|zQ (v := (.bool _)) X X X<|zU X X<|M X X X X X<|M X X X X X<|M X X X X X<|M X X X X X<|zQ (v := (.bool _)) X X X<|zU X X<|M X X X X X<|M X X X X X<|M X X X X X<|M X X X X X<|zQ (v := (.bool _)) X X X<|Y ?_
  refine zad rfl (fun c14 => ?_) (fun c14 => ?_)
  ·
   refine W.sr<|zF X X<|Y<|zw<|zc<|zb zex ?_
   refine ⟨h9, _, rfl, st11.done, ?_⟩
   refine zq ?_
   rw [small_no p (.inl (by simp_all))]; rfl
  cases c14
 refine Z X X X<|O X zD X zaJ X X<|Z X X X<|zag (j := 1) st11.sub (hc5.up le10) (us := [p_v1, p_v2]) X X zca zaJ X X X<|Z X X X<|have l15:=le4.trans le10;zg st11 X X X Tryz.call51 X (c_postilref04_Great st11.sub (x := p.lexicon) (p_f1.up l15) (p_f2.up l15))<|fun r16 w17 h18 le19 st20 q21=> ?_
 obtain rfl := q21
 refine zP (v := (.bool _)) X X X<|zU X X ?_
 refine zas (d := 14) rfl (fun g22 => ?_) (fun g22 => ?_)
 ·
  refine M X X X X X<|M X X X X X<|M X X X X X<|M X X X X X<|zQ (v := (.bool _)) X X X<|zU X X<|M X X X X X<|M X X X X X<|M X X X X X<|M X X X X X<|zQ (v := (.bool _)) X X X<|Y ?_
  refine zad rfl (fun c23 => ?_) (fun c23 => ?_)
  ·
   refine W.sr<|zF X X<|Y<|zw<|zc<|zb zex ?_
   refine ⟨h18, _, rfl, st20.done, ?_⟩
   refine zq ?_
   rw [small_no p (.inr (.inl (by simp_all)))]; rfl
  cases c23
 refine Z X X X<|O X zD X zbl X X<|Z X X X<|U (j := 3) st20.sub (hc5.up (le10.trans le19)) X X X zbx X<|Z X X X<|have l24:=l15.trans le19;zaC (p_f3.up l24) X zaq X<|Z X X X<|zdp X X X<|zP (v := (.bool _)) X X X<|zU X X ?_
 refine zab (d := 20) rfl (fun g25 => ?_) (fun g25 => ?_)
 ·
  refine M X X X X X<|M X X X X X<|M X X X X X<|M X X X X X<|zQ (v := (.bool _)) X X X<|Y ?_
  refine zad rfl (fun c26 => ?_) (fun c26 => ?_)
  ·
   refine W.sr<|zF X X<|Y<|zw<|zc<|zb zex ?_
   refine ⟨h18, _, rfl, st20.done, ?_⟩
   refine zq ?_
   rw [small_no p (.inr (.inr (.inl (by omega))))]; rfl
  cases c26
 refine Z X X X<|O X zD X zbi X X<|Z X X X<|U (j := 4) st20.sub (hc5.up (le10.trans le19)) X X X zbF X<|Z X X X<|zaC (p_f4.up l24) X zan X<|Z X X X<|zdp X X X<|zP (v := (.bool _)) X X X<|Y ?_
 refine zG rfl (fun c27 => ?_) (fun c27 => ?_)
 ·
  refine W.sr<|zF X X<|Y<|zw<|zc<|zb zex ?_
  refine ⟨h18, _, rfl, st20.done, ?_⟩
  refine zq ?_
  rw [small_no p (.inr (.inr (.inr (by omega))))]; rfl
 refine zx<|E<|zm<|W.sr<|zt X X<|Y<|zH ?_
 refine zao ([2, 3, 4] ++ t_rg 26 38) (G := Nat × Heap) (fun ⟨i, h28⟩ => [(3, .int .i64 (i : Int))]) (fun ⟨i, h28⟩ w' => Le h18 h28 ∧ St h w h28 w' [] ∧ (i ≤ p.questions.length) ∧ ((p.questions.take i).all zhE = true)) (fun ⟨i, h28⟩ => p.questions.length - i) ⟨0, h18⟩ ⟨rfl, trivial⟩ ⟨Le.refl _, st20, zaP, zaP⟩ ?_
 rintro ⟨i, h28⟩ _ w31 ⟨le29, st30, hi, hA⟩
 refine zm<|W.sr<|zf X X<|O X zD X zbl X X<|U (j := 3) st30.sub (hc5.up ((le10.trans le19).trans le29)) X X X zbx X<|have l32:=l24.trans le29;zaC (p_f3.up l32) X zaq X<|zaO X X X<|Y ?_
 refine zG rfl (fun c33 => ?_) (fun c33 => ?_)
 ·
  refine zx<|E<|zm<|zH<|zm<|W.sr<|O X zD X zbl X X<|U (j := 3) st30.sub (hc5.up ((le10.trans le19).trans le29)) X X X zbx X<|zf X X ?_
  obtain ⟨q, hq⟩ : ∃ y_, (p.questions)[i]? = some y_ := t_ge (by omega)
  obtain ⟨b34, o35, _, he37, hc36, hr_q⟩ := Sl.elem (p_f3.up l32) hq
  obtain ⟨v38, rfl, f39⟩ := hr_q
  have f39_b := f39.le
  refine zT he37 X X (hk := X) (hu := zaq) (hz := zbB) X<|O X zaw X zbO X X<|U (j := 3) st30.sub hc36 X X X zcg X<|zaC f39 X zaQ X<|zdp X X X<|Y ?_
  refine zG rfl (fun c40 => ?_) (fun c40 => ?_)
  ·
   refine W.sr<|zF X X<|Y<|zw<|zc<|zI<|zc<|zc<|zI<|zc<|zb zex ?_
   refine ⟨h28, _, rfl, st30.done, ?_⟩
   refine zq ?_
   rw [small_noq hq (small_q6 (by omega))]; rfl
  refine zx<|E<|W.sr<|zt X X<|Y<|zH ?_
  refine zao ([2, 4] ++ t_rg 41 23) (G := Nat × Heap) (fun ⟨k, h41⟩ => [(4, .int .i64 (k : Int))]) (fun ⟨k, h41⟩ w' => Le h28 h41 ∧ St h w h41 w' [] ∧ (k ≤ q.heads.length) ∧ (((q.heads.take k).all fun h => decide (h.stem.length ≤ 40)) = true)) (fun ⟨k, h41⟩ => q.heads.length - k) ⟨0, h28⟩ ⟨rfl, trivial⟩ ⟨Le.refl _, st30, zaP, zaP⟩ ?_
  rintro ⟨k, h41⟩ _ w44 ⟨le42, st43, hk, hB⟩
  refine zm<|W.sr<|zf X X<|O X zD X zbl X X<|have l45:=((le10.trans le19).trans le29).trans le42;U (j := 3) st43.sub (hc5.up l45) X X X zbx X<|zf X X<|zT he37 X X (hk := X) (hu := zaq) (hz := zbB) X<|O X zaw X zbO X X<|U (j := 3) st43.sub (hc36.up le42) X X X zcg X<|zaC (f39.up le42) X zaQ X<|zaO X X X<|Y ?_
  refine zG rfl (fun c46 => ?_) (fun c46 => ?_)
  ·
   refine zx<|E<|zm<|zH<|W.sr<|O X zD X zbl X X<|U (j := 3) st43.sub (hc5.up l45) X X X zbx X<|zf X X<|zT he37 X X (hk := X) (hu := zaq) (hz := zbB) X<|O X zaw X zbO X X<|U (j := 3) st43.sub (hc36.up le42) X X X zcg X<|zf X X ?_
   obtain ⟨hd, hhd⟩ : ∃ y_, (q.heads)[k]? = some y_ := t_ge (by omega)
   obtain ⟨b47, o48, _, he50, hc49, hr_hd⟩ := Sl.elem (f39.up le42) hhd
   obtain ⟨rfl, ls51, lu52⟩ := hr_hd
   simp only [big] at ls51
   refine zT he50 X X (hk := X) (hu := zaQ) (hz := zah) X<|O X zbg X zai X X<|U (j := 0) st43.sub hc49 X X X zav X<|zcn X zar X<|zdp X X X<|Y ?_
   refine zG rfl (fun c53 => ?_) (fun c53 => ?_)
   ·
    refine W.sr<|zF X X<|Y<|zw<|zI<|zc<|zc<|zI<|zI<|zc<|zc<|zI<|zc<|zb zex ?_
    refine ⟨h41, _, rfl, st43.done, ?_⟩
    refine zq ?_
    rw [small_noq hq (small_qh hhd (by omega))]; rfl
   refine zx<|zK<|E<|zl<|zf X X<|zay X X t_om X<|zt X X<|Y ?_
   refine ⟨⟨k + 1, h41⟩, ⟨rfl, trivial⟩, ?_, ⟨le42, st43, ?_, ?_⟩, ?_⟩
   ·exact zal
   ·first | omega | (simp; omega)
   ·rw [all_snocB hhd, hB, Bool.true_and]; exact decide_eq_true (by omega)
   show q.heads.length - ((k + 1)) < q.heads.length - k
   omega
  refine zaA<|zo<|zo<|zak<|zK<|E<|zl<|zf X X<|zay X X t_om X<|zt X X<|Y ?_
  refine ⟨⟨i + 1, h41⟩, ⟨rfl, trivial⟩, ?_, ⟨(le29.trans le42), st43, ?_, ?_⟩, ?_⟩
  ·exact zal
  ·first | omega | (simp; omega)
  ·rw [all_snocB hq, hA, Bool.true_and]; exact small_qy (by omega) hB (by omega)
  show p.questions.length - ((i + 1)) < p.questions.length - i
  omega
 refine zaA<|zo<|zo<|zak<|E<|zm<|W.sr<|zt X X<|Y<|zH ?_
 refine zao ([2, 5] ++ t_rg 64 15) (G := Nat × Heap) (fun ⟨j, h54⟩ => [(5, .int .i64 (j : Int))]) (fun ⟨j, h54⟩ w' => Le h28 h54 ∧ St h w h54 w' [] ∧ (j ≤ p.voters.length) ∧ ((p.voters.take j).all smallV = true)) (fun ⟨j, h54⟩ => p.voters.length - j) ⟨0, h28⟩ ⟨rfl, trivial⟩ ⟨Le.refl _, st30, zaP, zaP⟩ ?_
 rintro ⟨j, h54⟩ _ w57 ⟨le55, st56, hj, hV⟩
 refine zm<|W.sr<|zf X X<|O X zD X zbi X X<|have l58:=((le10.trans le19).trans le29).trans le55;U (j := 4) st56.sub (hc5.up l58) X X X zbF X<|have l59:=l32.trans le55;zaC (p_f4.up l59) X zan X<|zaO X X X<|Y ?_
 refine zG rfl (fun c60 => ?_) (fun c60 => ?_)
 ·
  refine zx<|E<|zm<|zH<|W.sr<|O X zD X zbi X X<|U (j := 4) st56.sub (hc5.up l58) X X X zbF X<|zf X X ?_
  obtain ⟨v, hv⟩ : ∃ y_, (p.voters)[j]? = some y_ := t_ge (by omega)
  obtain ⟨b61, o62, _, he64, hc63, hr_v⟩ := Sl.elem (p_f4.up l59) hv
  obtain ⟨v65, rfl, f66⟩ := hr_v
  have f66_b := f66.le
  refine zT he64 X X (hk := X) (hu := zan) (hz := zbq) X<|O X zaW X zbs X X<|U (j := 2) st56.sub hc63 X X X zbI X<|zaC f66 X ze X<|zdp X X X<|Y ?_
  refine zG rfl (fun c67 => ?_) (fun c67 => ?_)
  ·
   refine W.sr<|zF X X<|Y<|zw<|zI<|zc<|zc<|zI<|zc<|zb zex ?_
   refine ⟨h54, _, rfl, st56.done, ?_⟩
   refine zq ?_
   rw [small_nov hv (by omega)]; rfl
  refine zx<|zK<|E<|zl<|zf X X<|zay X X t_om X<|zt X X<|Y ?_
  refine ⟨⟨j + 1, h54⟩, ⟨rfl, trivial⟩, ?_, ⟨le55, st56, ?_, ?_⟩, ?_⟩
  ·exact zal
  ·first | omega | (simp; omega)
  ·rw [all_snocB hv, hV, Bool.true_and]; exact decide_eq_true (by omega)
  show p.voters.length - ((j + 1)) < p.voters.length - j
  omega
 refine zaA<|zo<|zo<|zak<|E<|W.sr<|zF X X<|Y<|zw<|zb zex ?_
 refine ⟨h54, _, rfl, st56.done, ?_⟩
 refine zq ?_
 rw [small_yes (by simp_all) (by simp_all) (by omega) (by omega) hA (by omega) hV (by omega)]; rfl
end Go.Pk

namespace Go.Pk
open Go Go.RowKit Go.Proofs
theorem c_slices_Max_Lint_int {h : Heap} {w : World} (hs : Sub h w) {s_v : Value} {s : (List Int)} (s_f : Sl LInt h s_v s) (hn : 0 < s.length) : Calls Tryz.prog 108 #[s_v] w (Rets h w (fun _ _ res_ => res_ = .int .i64 ((maxL s)))) := by
 refine zL (n := 25) Tryz.func108 X X X<|have st0:=t_s0 hs;have s_f_b:=s_f.le;W.sr<|zt X X<|Y<|zm<|W.sr<|zO (v := s_v) X X<|zaC s_f X ze X<|zaO X X X<|Y ?_
 refine zG rfl (fun c1 => ?_) (fun c1 => ?_)
 ·
  exfalso
  have sure_ : (decide ((s.length : Int) < 1)) = false := by exact decide_eq_false (by omega)
  exact t_of sure_ c1
 refine zx<|E<|W.sr<|zO (v := s_v) X X ?_
 obtain ⟨a, ha⟩ : ∃ y_, (s)[0]? = some y_ := t_ge (by omega)
 obtain ⟨b2, o3, _, he5, hc4, hr_a⟩ := Sl.elem s_f ha
 obtain rfl := hr_a
 refine zT he5 X X (hk := X) (hu := ze) (hz := zn) X<|U (j := 0) st0.sub hc4 X X X zA X<|zt X X<|Y<|zm<|W.sr<|zt X X<|Y<|zH ?_
 refine zao ([3, 4] ++ t_rg 12 12) (G := Nat × Heap) (fun ⟨k, h6⟩ => [(3, .int .i64 (maxL (s.take k))), (4, .int .i64 (k : Int))]) (fun ⟨k, h6⟩ w' => Le h h6 ∧ St h w h6 w' [] ∧ (1 ≤ k ∧ k ≤ s.length)) (fun ⟨k, h6⟩ => s.length - k) ⟨1, h⟩ ⟨(zac (by rw [maxL_one ha])), rfl, trivial⟩ ⟨Le.refl _, st0, (by exact ⟨Nat.le_refl _, by omega⟩)⟩ ?_
 rintro ⟨k, h6⟩ _ w9 ⟨le7, st8, hk⟩
 refine zm<|W.sr<|zf X X<|zO (v := s_v) X X<|zaC (s_f.up le7) X ze X<|zaO X X X<|Y ?_
 refine zG rfl (fun c10 => ?_) (fun c10 => ?_)
 ·
  refine zx<|E<|zm<|zH<|zl<|zf X X<|zO (v := s_v) X X<|zf X X ?_
  obtain ⟨x, hx⟩ : ∃ y_, (s)[k]? = some y_ := t_ge (by omega)
  obtain ⟨b11, o12, _, he14, hc13, hr_x⟩ := Sl.elem (s_f.up le7) hx
  obtain rfl := hr_x
  refine zT he14 X X (hk := X) (hu := ze) (hz := zn) X<|U (j := 0) st8.sub hc13 X X X zA X<|zi X X (r_max X X)<|zt X X<|zr<|zK<|E<|zl<|zf X X<|zay X X t_om X<|zt X X<|Y ?_
  refine ⟨⟨k + 1, h6⟩, ⟨?_, rfl, trivial⟩, ?_, ⟨le7, st8, ?_⟩, ?_⟩
  ·exact zac (by rw [maxL_take hx (by omega)])
  ·exact zal
  ·exact ⟨by omega, by omega⟩
  show s.length - ((k + 1)) < s.length - k
  omega
 refine zaA<|zo<|zo<|zak<|E<|W.sr<|zf X X<|zt X X<|Y<|zw<|zb Tryz.results108 ?_
 refine ⟨h6, _, rfl, st8.done, ?_⟩
 refine zac ?_
 rw [List.take_of_length_le (by omega)]
theorem zhu {h : Heap} {w : World} (hs : Sub h w) {l_v : Value} {l : (List (List Int))} (l_f : Sl (LSl LInt) h l_v l) (q : Int) (hq : 0 ≤ q) (hl : ∀ t ∈ l, ∃ a, t[q.toNat]? = some a ∧ 0 ≤ a ∧ a < 3) (hn : l.length ≤ 1000) : Calls Tryz.prog 70 #[l_v, .int .i64 q] w (Rets h w (fun _ _ res_ => res_ = .int .i64 ((zcW l q.toNat)))) := by
 refine zL (n := 25) Tryz.func70 X X X<|have st0:=t_s0 hs;have l_f_b:=l_f.le;W.sr<|zt X X<|Y<|W.sr<|zX st0 Tryz.zeroValue172 X X<|fun b1 w2 st3=>Y<|zm<|W.sr<|zO (v := l_v) X X<|zaC l_f X zap X<|zf X X<|Y<|zH ?_
 refine zao ([7] ++ t_rg 10 13) (G := Nat × Int × Int × Int × Heap) (fun ⟨i, c0, c1, c2, h4⟩ => [(10, .int .i64 (i : Int))]) (fun ⟨i, c0, c1, c2, h4⟩ w' => Le h h4 ∧ St h w h4 w' [[(b1, .cells (List.toArray [.int .i64 c0, .int .i64 c1, .int .i64 c2]) 172)]] ∧ (i ≤ l.length) ∧ (c0 = (cntH (l.take i) q.toNat 0 : Nat) ∧ c1 = (cntH (l.take i) q.toNat 1 : Nat) ∧ c2 = (cntH (l.take i) q.toNat 2 : Nat))) (fun ⟨i, c0, c1, c2, h4⟩ => l.length - i) ⟨0, 0, 0, 0, h⟩ ⟨rfl, trivial⟩ ⟨Le.refl _, st3, zaP, (by exact ⟨rfl, rfl, rfl⟩)⟩ ?_
 rintro ⟨i, c0, c1, c2, h4⟩ _ w7 ⟨le5, st6, hi, hc⟩
 refine W.sr<|zaO X X X<|Y<|zm ?_
 refine zG rfl (fun c8 => ?_) (fun c8 => ?_)
 ·
  refine zx<|E<|zm<|zH<|W.sr ?_
  obtain ⟨t, ht⟩ : ∃ y_, (l)[i]? = some y_ := t_ge (by omega)
  obtain ⟨b9, o10, _, he12, hc11, hr_t⟩ := Sl.elem (l_f.up le5) ht
  obtain ⟨v13, rfl, f14⟩ := hr_t
  have f14_b := f14.le
  refine zT he12 X X (hk := X) (hu := zap) (hz := zbs) X<|U (j := 0) st6.sub hc11 X X X zbI X<|zaa (v := v13) X X<|Y ?_
  obtain ⟨a, ha⟩ : ∃ y, (t)[q.toNat]? = some y := ⟨_, List.getElem?_eq_getElem (by obtain ⟨a_, ha_, _⟩ := hl t (List.mem_of_getElem? ht); exact (List.getElem?_eq_some_iff.1 ha_).1)⟩
  rcases (show a = 0 ∨ a = 1 ∨ a = 2 by obtain ⟨a_, ha_, h0_, h3_⟩ := hl t (List.mem_of_getElem? ht); rw [ha] at ha_; cases ha_; omega) with hk15 | hk15 | hk15
  ·
   refine zl<|zO (v := v13) X X<|zf X X ?_
   obtain ⟨b16, o17, _, he19, hc18, hr_a⟩ := Sl.elem f14 ha
   obtain rfl := hr_a
   refine zi rfl rfl (zat he19 rfl rfl (hk := (show _ = ((q.toNat : Nat) : Int) by omega)) (hu := ze) (hz := zn)) ?_
   refine U (j := 0) st6.sub hc18 X X X zA X ?_
   refine zi rfl rfl (zbu rfl rfl (show _ = ((0 : Nat) : Int) by rw [hk15]; rfl) rfl zda zn) ?_
   refine zbR (st6.get (k := 0) X) X X zA X ?_
   refine zi rfl rfl (zir rfl rfl (by obtain ⟨q0, q1, q2⟩ := hc; have b0 := zfo (l.take i) q.toNat 0; have b1 := zfo (l.take i) q.toNat 1; have b2 := zfo (l.take i) q.toNat 2; rw [List.length_take] at b0 b1 b2; omega)) ?_
   refine zi rfl rfl (zbu rfl rfl (show _ = ((0 : Nat) : Int) by rw [hk15]; rfl) rfl zda zn) ?_
   refine zaM st6 (k := 0) X X X X zn X X X<|fun w20 st21=>zr<|zK<|E<|zl<|zay X X t_om X<|zf X X<|Y ?_
   refine ⟨⟨i + 1, (c0 + 1), c1, c2, h4⟩, ⟨rfl, trivial⟩, ?_, ⟨le5, st21, ?_, ?_⟩, ?_⟩
   ·exact zal
   ·first | omega | (simp; omega)
   ·obtain ⟨q0, q1, q2⟩ := hc
    refine ⟨?_, ?_, ?_⟩ <;> (rw [cnt_up ht ha, hk15]; simp; omega)
   show l.length - ((i + 1)) < l.length - i
   omega
  ·
   refine zl<|zO (v := v13) X X<|zf X X ?_
   obtain ⟨b22, o23, _, he25, hc24, hr_a⟩ := Sl.elem f14 ha
   obtain rfl := hr_a
   refine zi rfl rfl (zat he25 rfl rfl (hk := (show _ = ((q.toNat : Nat) : Int) by omega)) (hu := ze) (hz := zn)) ?_
   refine U (j := 0) st6.sub hc24 X X X zA X ?_
   refine zi rfl rfl (zbu rfl rfl (show _ = ((1 : Nat) : Int) by rw [hk15]; rfl) rfl zda zn) ?_
   refine zbR (st6.get (k := 0) X) X X zA X ?_
   refine zi rfl rfl (zir rfl rfl (by obtain ⟨q0, q1, q2⟩ := hc; have b0 := zfo (l.take i) q.toNat 0; have b1 := zfo (l.take i) q.toNat 1; have b2 := zfo (l.take i) q.toNat 2; rw [List.length_take] at b0 b1 b2; omega)) ?_
   refine zi rfl rfl (zbu rfl rfl (show _ = ((1 : Nat) : Int) by rw [hk15]; rfl) rfl zda zn) ?_
   refine zaM st6 (k := 0) X X X X zn X X X<|fun w26 st27=>zr<|zK<|E<|zl<|zay X X t_om X<|zf X X<|Y ?_
   refine ⟨⟨i + 1, c0, (c1 + 1), c2, h4⟩, ⟨rfl, trivial⟩, ?_, ⟨le5, st27, ?_, ?_⟩, ?_⟩
   ·exact zal
   ·first | omega | (simp; omega)
   ·obtain ⟨q0, q1, q2⟩ := hc
    refine ⟨?_, ?_, ?_⟩ <;> (rw [cnt_up ht ha, hk15]; simp; omega)
   show l.length - ((i + 1)) < l.length - i
   omega
  refine zl<|zO (v := v13) X X<|zf X X ?_
  obtain ⟨b28, o29, _, he31, hc30, hr_a⟩ := Sl.elem f14 ha
  obtain rfl := hr_a
  refine zi rfl rfl (zat he31 rfl rfl (hk := (show _ = ((q.toNat : Nat) : Int) by omega)) (hu := ze) (hz := zn)) ?_
  refine U (j := 0) st6.sub hc30 X X X zA X ?_
  refine zi rfl rfl (zbu rfl rfl (show _ = ((2 : Nat) : Int) by rw [hk15]; rfl) rfl zda zn) ?_
  refine zbR (st6.get (k := 0) X) X X zA X ?_
  refine zi rfl rfl (zir rfl rfl (by obtain ⟨q0, q1, q2⟩ := hc; have b0 := zfo (l.take i) q.toNat 0; have b1 := zfo (l.take i) q.toNat 1; have b2 := zfo (l.take i) q.toNat 2; rw [List.length_take] at b0 b1 b2; omega)) ?_
  refine zi rfl rfl (zbu rfl rfl (show _ = ((2 : Nat) : Int) by rw [hk15]; rfl) rfl zda zn) ?_
  refine zaM st6 (k := 0) X X X X zn X X X<|fun w32 st33=>zr<|zK<|E<|zl<|zay X X t_om X<|zf X X<|Y ?_
  refine ⟨⟨i + 1, c0, c1, (c2 + 1), h4⟩, ⟨rfl, trivial⟩, ?_, ⟨le5, st33, ?_, ?_⟩, ?_⟩
  ·exact zal
  ·first | omega | (simp; omega)
  ·obtain ⟨q0, q1, q2⟩ := hc
   refine ⟨?_, ?_, ?_⟩ <;> (rw [cnt_up ht ha, hk15]; simp; omega)
  show l.length - ((i + 1)) < l.length - i
  omega
 refine zaA<|zo<|zo<|zak<|E<|zm ?_
 obtain ⟨h34, le35, hb36, st38⟩ := st6.freeze (k := 0) rfl
 have hc37 := Cells.of hb36
 refine zl ?_
 have fa40 := Sl.ofCells (L := LInt) (xs := [c0, c1, c2]) hc37 (Enc.cons (L := LInt) (vs := [.int .i64 c0]) (x := c0) (h := h34) (rfl) (Enc.cons (L := LInt) (vs := [.int .i64 c1]) (x := c1) (h := h34) (rfl) (Enc.cons (L := LInt) (vs := [.int .i64 c2]) (x := c2) (h := h34) (rfl) Enc.nil))) (by simp [big])
 refine zi X X (r_slice_arr X zda zn) ?_
 refine zg st38 rfl rfl rfl Tryz.call108 rfl (c_slices_Max_Lint_int st38.sub fa40 (by simp)) ?_
 intro r41 w42 h43 le44 st45 q46
 obtain rfl := q46
 refine zt X X<|Y<|zw<|zb Tryz.results70 ?_
 refine ⟨h43, _, rfl, st45.done, ?_⟩
 refine zac ?_
 obtain ⟨q0, q1, q2⟩ := hc
 rw [List.take_of_length_le (by omega)] at q0 q1 q2
 exact worst3 l q.toNat q0 q1 q2
theorem c_vote_members {h : Heap} {w : World} (hs : Sub h w) (s : Int) (hs0 : 0 ≤ s ∧ s ≤ 1000000) : Calls Tryz.prog 62 #[.int .i64 s] w (Rets h w (fun h' _ res_ => ∃ u0, res_ = u0 ∧ Sl LInt h' u0 ((zbJ s 6)))) := by
 refine zL (n := 19) Tryz.func62 X X X<|have st0:=t_s0 hs;W.sr<|zcv X X<|Y<|W.sr<|zcv X X<|Y<|zm<|W.sr<|zf X X<|Y<|zH ?_
 have st4 := st0.snoc
 have f5 := OSl.nil LInt 3 h
 refine zao (t_rg 3 15) (G := Nat × Value × List (Nat × Obj) × Heap) (fun ⟨i, v_3, o_3, h1⟩ => [(3, v_3), (5, .int .i64 (i : Int))]) (fun ⟨i, v_3, o_3, h1⟩ w' => Le h h1 ∧ St h w h1 w' [o_3] ∧ (OSl LInt 3 h1 v_3 ((zbJ s i)) o_3) ∧ (i ≤ 6)) (fun ⟨i, v_3, o_3, h1⟩ => 6 - i) ⟨0, (.slice none 0 0), [], h⟩ ⟨rfl, rfl, trivial⟩ ⟨Le.refl _, st4, (OSl.to f5 (by rfl)), zaP⟩ ?_
 rintro ⟨i, v_3, o_3, h1⟩ _ w6 ⟨le2, st3, hO_3, hi⟩
 refine W.sr<|zaO X X X<|Y<|zm ?_
 refine zG rfl (fun c7 => ?_) (fun c7 => ?_)
 ·
  refine zx<|E<|zm<|zH<|W.sr<|zf X X<|zt X X<|Y<|W.sr<|zf X X<|zf X X ?_
  refine zi rfl rfl (r_shr rfl rfl (by omega) (by omega)) ?_
  refine zi rfl rfl (r_and1 rfl rfl (by have q_ := zeW (b := (i : Int)) hs0.1 hs0.2; omega) (by have q_ := zeW (b := (i : Int)) hs0.1 hs0.2; omega)) ?_
  refine zcX X X X<|Y ?_
  refine zG rfl (fun c8 => ?_) (fun c8 => ?_)
  ·
   refine zl<|zO (v := v_3) X X<|zf X X<|zae (L := LInt) (xs := [(i : Int)]) (cs := [.int .i64 (i : Int)]) st3 (Enc.cons (L := LInt) (vs := [.int .i64 (i : Int)]) (x := (i : Int)) (h := h1) (X) Enc.nil) X X X ze Tryz.info3 X X X t_kr<|fun v9 w10 h13 le14 f11 st12=> ?_
   refine zcN (k := 0) (nb := 8) st12 (hO_3.up le14) rfl f11 rfl rfl rfl ze Tryz.info3 rfl rfl rfl (by decide) rfl (by have q_ := zhW s i; first | omega | (simp only [List.length_append, List.length_cons, List.length_nil]; omega)) (by have q_ := zhW s i; first | omega | (simp only [List.length_append, List.length_cons, List.length_nil]; omega)) ?_
   intro v15 o16 w17 _ e18 f19 st20
   subst e18
   refine zaa (v := v15) X X<|zr<|zK<|E<|zl<|zay X X t_om X<|zf X X<|Y ?_
   have l21 := le2.trans le14
   refine ⟨⟨i + 1, v15, o16, h13⟩, ⟨rfl, rfl, trivial⟩, ?_, ⟨l21, st20, ?_, ?_⟩, ?_⟩
   ·exact zal
   ·refine OSl.to f19 ?_
    rw [ziJ, if_pos (by simpa [bitN] using c8)]
   ·first | omega | (simp; omega)
   show 6 - ((i + 1)) < 6 - i
   omega
  refine zx<|zK<|E<|zl<|zay X X t_om X<|zf X X<|Y ?_
  refine ⟨⟨i + 1, v_3, o_3, h1⟩, ⟨rfl, rfl, trivial⟩, ?_, ⟨le2, st3, ?_, ?_⟩, ?_⟩
  ·exact zal
  ·refine OSl.to hO_3 ?_
   rw [ziJ, if_neg (by simpa [bitN] using c8), List.append_nil]
  ·first | omega | (simp; omega)
  show 6 - ((i + 1)) < 6 - i
  omega
 refine zaA<|zo<|zo<|zak<|E<|W.sr<|zO (v := v_3) X X<|zaa (v := v_3) X X<|Y<|zw<|zb Tryz.results62 ?_
 obtain ⟨h22, le23, f24, st25⟩ := OSl.freeze (k := 0) st3 hO_3 rfl (by have q_ := zhW s i; first | omega | (simp only [List.length_append, List.length_cons, List.length_nil]; omega))
 refine ⟨h22, _, rfl, st25.done, ?_⟩
 refine ⟨_, rfl, Sl.to f24 ?_⟩
 rw [show i = 6 by omega]
set_option maxHeartbeats 4000000 in
theorem c_vote_tells {h : Heap} {w : World} (hs : Sub h w) {ts_v : Value} {ts : (List (List Int))} (ts_f : Sl (LSl LInt) h ts_v ts) (s : Int) (hs0 : 0 ≤ s ∧ s ≤ 1000000) (hl : ∀ t ∈ ts, t.length ≤ 6) (he : ∀ t ∈ ts, ∀ u ∈ ts, t.length = u.length) (hb6 : ∀ t ∈ ts, ∀ a ∈ t, 0 ≤ a ∧ a ≤ 1000) : Calls Tryz.prog 61 #[ts_v, .int .i64 s] w (Rets h w (fun _ _ res_ => res_ = .bool ((ziE ts (zbJ s 6))))) := by
 refine zL (n := 40) Tryz.func61 X X X<|have st0:=t_s0 hs;have ts_f_b:=ts_f.le;W.sr<|zF X X<|Y<|W.sr<|zfy (κ := Six) (υ := Bool) (ek := sixV) (eu := (fun b : Bool => .bool b)) st0 X<|fun v1 o2 w3 f4 st5=> ?_
 obtain ⟨mb6, rfl⟩ := f4.form
 have nd7 : (([] : List (Six × Bool)).map (·.1)).Nodup := by simp
 refine zaa (v := (.map (some mb6))) X X<|Y<|zm<|W.sr<|zO (v := ts_v) X X<|zaC ts_f X zap X<|zf X X<|Y<|zH ?_
 refine zao ([4, 7, 8, 9, 10] ++ t_rg 14 26) (G := Nat × List (Six × Bool) × List (Nat × Obj) × Heap) (fun ⟨i, m, o_5, h8⟩ => [(14, .int .i64 (i : Int))]) (fun ⟨i, m, o_5, h8⟩ w' => Le h h8 ∧ St h w h8 w' [o_5] ∧ (OM sixV (fun b : Bool => .bool b) (m) o_5 (.map (some mb6))) ∧ (((m).map (·.1)).Nodup) ∧ (i ≤ ts.length) ∧ (∀ j, j < i → ziF ts (zbJ s 6) j = true) ∧ (∀ x, look m x = sixM ts s i x)) (fun ⟨i, m, o_5, h8⟩ => ts.length - i) ⟨0, [], o2, h⟩ ⟨rfl, trivial⟩ ⟨Le.refl _, st5, (by have q := f4; exact q), (by have q := nd7; exact q), zaP, zaP, (by intro x; simp [sixM, look])⟩ ?_
 rintro ⟨i, m, o_5, h8⟩ _ w11 ⟨le9, st10, hM_5, hN_5, hi, hT, hm⟩
 refine W.sr<|zaO X X X<|Y<|zm ?_
 refine zG rfl (fun c12 => ?_) (fun c12 => ?_)
 ·
  refine zx<|E<|zm<|zH<|W.sr ?_
  obtain ⟨t, ht⟩ : ∃ y_, (ts)[i]? = some y_ := t_ge (by omega)
  obtain ⟨b13, o14, _, he16, hc15, hr_t⟩ := Sl.elem (ts_f.up le9) ht
  obtain ⟨v17, rfl, f18⟩ := hr_t
  have f18_b := f18.le
  refine zT he16 X X (hk := X) (hu := zap) (hz := zbs) X<|U (j := 0) st10.sub hc15 X X X zbI X<|zaa (v := v17) X X<|Y<|W.sr<|zX st10 Tryz.zeroValue169 X X<|fun b19 w20 st21=>Y<|zm<|W.sr<|zO (v := v17) X X<|zaC f18 X ze X<|zf X X<|Y<|zH ?_
  refine zao ([9, 10] ++ t_rg 20 14) (G := Nat × Int × Int × Int × Int × Int × Int × Heap) (fun ⟨k, c0, c1, c2, c3, c4, c5, h22⟩ => [(20, .int .i64 (k : Int))]) (fun ⟨k, c0, c1, c2, c3, c4, c5, h22⟩ w' => Le h8 h22 ∧ St h w h22 w' [o_5, [(b19, .cells (List.toArray [.int .i64 c0, .int .i64 c1, .int .i64 c2, .int .i64 c3, .int .i64 c4, .int .i64 c5]) 169)]] ∧ (k ≤ t.length) ∧ (Six.mk c0 c1 c2 c3 c4 c5 = sixK t s k)) (fun ⟨k, c0, c1, c2, c3, c4, c5, h22⟩ => t.length - k) ⟨0, 0, 0, 0, 0, 0, 0, h8⟩ ⟨rfl, trivial⟩ ⟨Le.refl _, st21, zaP, (by rfl)⟩ ?_
  rintro ⟨k, c0, c1, c2, c3, c4, c5, h22⟩ _ w25 ⟨le23, st24, hk, hc⟩
  refine W.sr<|zaO X X X<|Y<|zm ?_
  refine zG rfl (fun c26 => ?_) (fun c26 => ?_)
  ·
   refine zx<|E<|zm<|zH<|W.sr<|zf X X ?_
   obtain ⟨x, hx⟩ : ∃ y_, (t)[k]? = some y_ := t_ge (by omega)
   obtain ⟨b27, o28, _, he30, hc29, hr_x⟩ := Sl.elem (f18.up le23) hx
   obtain rfl := hr_x
   refine zT he30 X X (hk := X) (hu := ze) (hz := zn) X<|U (j := 0) st24.sub hc29 X X X zA X<|zt X X<|zt X X<|Y ?_
   rcases (show (k : Int) = 0 ∨ (k : Int) = 1 ∨ (k : Int) = 2 ∨ (k : Int) = 3 ∨ (k : Int) = 4 ∨ (k : Int) = 5 by have q_ := hl t (List.mem_of_getElem? ht); omega) with hk31 | hk31 | hk31 | hk31 | hk31 | hk31
   ·
    refine zl<|zf X X<|zf X X<|zf X X<|zf X X ?_
    refine zi rfl rfl (r_shr rfl rfl (by omega) (by omega)) ?_
    refine zi rfl rfl (r_and1 rfl rfl (by have q_ := zeW (b := (k : Int)) hs0.1 hs0.2; omega) (by have q_ := zeW (b := (k : Int)) hs0.1 hs0.2; omega)) ?_
    refine zi rfl rfl (r_mul rfl rfl (by have q_ := hb6 t (List.mem_of_getElem? ht) x (List.mem_of_getElem? hx); rcases bit_01 (s := s) (j := (k : Int)) with q2_ | q2_ <;> (rw [bitN] at q2_; rw [q2_]; omega))) ?_
    refine zi rfl rfl (zbu rfl rfl (show _ = ((0 : Nat) : Int) by rw [hk31]; rfl) rfl zdi zn) ?_
    refine zaM st24 (k := 1) X X X X zn X X X<|fun w32 st33=>zr<|zK<|E<|zl<|zay X X t_om X<|zf X X<|Y ?_
    refine ⟨⟨k + 1, (x * ((s / 2 ^ (k : Int).toNat) % 2)), c1, c2, c3, c4, c5, h22⟩, ⟨rfl, trivial⟩, ?_, ⟨le23, st33, ?_, ?_⟩, ?_⟩
    ·exact zal
    ·first | omega | (simp; omega)
    ·simp only [sixK, Six.mk.injEq] at hc ⊢
     obtain ⟨q0, q1, q2, q3, q4, q5⟩ := hc
     refine ⟨?_, ?_, ?_, ?_, ?_, ?_⟩ <;> first | (rw [zhy (by omega)]; assumption) | (exact (zgH (by omega) hx).symm)
    show t.length - ((k + 1)) < t.length - k
    omega
   ·
    refine zl<|zf X X<|zf X X<|zf X X<|zf X X ?_
    refine zi rfl rfl (r_shr rfl rfl (by omega) (by omega)) ?_
    refine zi rfl rfl (r_and1 rfl rfl (by have q_ := zeW (b := (k : Int)) hs0.1 hs0.2; omega) (by have q_ := zeW (b := (k : Int)) hs0.1 hs0.2; omega)) ?_
    refine zi rfl rfl (r_mul rfl rfl (by have q_ := hb6 t (List.mem_of_getElem? ht) x (List.mem_of_getElem? hx); rcases bit_01 (s := s) (j := (k : Int)) with q2_ | q2_ <;> (rw [bitN] at q2_; rw [q2_]; omega))) ?_
    refine zi rfl rfl (zbu rfl rfl (show _ = ((1 : Nat) : Int) by rw [hk31]; rfl) rfl zdi zn) ?_
    refine zaM st24 (k := 1) X X X X zn X X X<|fun w34 st35=>zr<|zK<|E<|zl<|zay X X t_om X<|zf X X<|Y ?_
    refine ⟨⟨k + 1, c0, (x * ((s / 2 ^ (k : Int).toNat) % 2)), c2, c3, c4, c5, h22⟩, ⟨rfl, trivial⟩, ?_, ⟨le23, st35, ?_, ?_⟩, ?_⟩
    ·exact zal
    ·first | omega | (simp; omega)
    ·simp only [sixK, Six.mk.injEq] at hc ⊢
     obtain ⟨q0, q1, q2, q3, q4, q5⟩ := hc
     refine ⟨?_, ?_, ?_, ?_, ?_, ?_⟩ <;> first | (rw [zhy (by omega)]; assumption) | (exact (zgH (by omega) hx).symm)
    show t.length - ((k + 1)) < t.length - k
    omega
   ·
    refine zl<|zf X X<|zf X X<|zf X X<|zf X X ?_
    refine zi rfl rfl (r_shr rfl rfl (by omega) (by omega)) ?_
    refine zi rfl rfl (r_and1 rfl rfl (by have q_ := zeW (b := (k : Int)) hs0.1 hs0.2; omega) (by have q_ := zeW (b := (k : Int)) hs0.1 hs0.2; omega)) ?_
    refine zi rfl rfl (r_mul rfl rfl (by have q_ := hb6 t (List.mem_of_getElem? ht) x (List.mem_of_getElem? hx); rcases bit_01 (s := s) (j := (k : Int)) with q2_ | q2_ <;> (rw [bitN] at q2_; rw [q2_]; omega))) ?_
    refine zi rfl rfl (zbu rfl rfl (show _ = ((2 : Nat) : Int) by rw [hk31]; rfl) rfl zdi zn) ?_
    refine zaM st24 (k := 1) X X X X zn X X X<|fun w36 st37=>zr<|zK<|E<|zl<|zay X X t_om X<|zf X X<|Y ?_
    refine ⟨⟨k + 1, c0, c1, (x * ((s / 2 ^ (k : Int).toNat) % 2)), c3, c4, c5, h22⟩, ⟨rfl, trivial⟩, ?_, ⟨le23, st37, ?_, ?_⟩, ?_⟩
    ·exact zal
    ·first | omega | (simp; omega)
    ·simp only [sixK, Six.mk.injEq] at hc ⊢
     obtain ⟨q0, q1, q2, q3, q4, q5⟩ := hc
     refine ⟨?_, ?_, ?_, ?_, ?_, ?_⟩ <;> first | (rw [zhy (by omega)]; assumption) | (exact (zgH (by omega) hx).symm)
    show t.length - ((k + 1)) < t.length - k
    omega
   ·
    refine zl<|zf X X<|zf X X<|zf X X<|zf X X ?_
    refine zi rfl rfl (r_shr rfl rfl (by omega) (by omega)) ?_
    refine zi rfl rfl (r_and1 rfl rfl (by have q_ := zeW (b := (k : Int)) hs0.1 hs0.2; omega) (by have q_ := zeW (b := (k : Int)) hs0.1 hs0.2; omega)) ?_
    refine zi rfl rfl (r_mul rfl rfl (by have q_ := hb6 t (List.mem_of_getElem? ht) x (List.mem_of_getElem? hx); rcases bit_01 (s := s) (j := (k : Int)) with q2_ | q2_ <;> (rw [bitN] at q2_; rw [q2_]; omega))) ?_
    refine zi rfl rfl (zbu rfl rfl (show _ = ((3 : Nat) : Int) by rw [hk31]; rfl) rfl zdi zn) ?_
    refine zaM st24 (k := 1) X X X X zn X X X<|fun w38 st39=>zr<|zK<|E<|zl<|zay X X t_om X<|zf X X<|Y ?_
    refine ⟨⟨k + 1, c0, c1, c2, (x * ((s / 2 ^ (k : Int).toNat) % 2)), c4, c5, h22⟩, ⟨rfl, trivial⟩, ?_, ⟨le23, st39, ?_, ?_⟩, ?_⟩
    ·exact zal
    ·first | omega | (simp; omega)
    ·simp only [sixK, Six.mk.injEq] at hc ⊢
     obtain ⟨q0, q1, q2, q3, q4, q5⟩ := hc
     refine ⟨?_, ?_, ?_, ?_, ?_, ?_⟩ <;> first | (rw [zhy (by omega)]; assumption) | (exact (zgH (by omega) hx).symm)
    show t.length - ((k + 1)) < t.length - k
    omega
   ·
    refine zl<|zf X X<|zf X X<|zf X X<|zf X X ?_
    refine zi rfl rfl (r_shr rfl rfl (by omega) (by omega)) ?_
    refine zi rfl rfl (r_and1 rfl rfl (by have q_ := zeW (b := (k : Int)) hs0.1 hs0.2; omega) (by have q_ := zeW (b := (k : Int)) hs0.1 hs0.2; omega)) ?_
    refine zi rfl rfl (r_mul rfl rfl (by have q_ := hb6 t (List.mem_of_getElem? ht) x (List.mem_of_getElem? hx); rcases bit_01 (s := s) (j := (k : Int)) with q2_ | q2_ <;> (rw [bitN] at q2_; rw [q2_]; omega))) ?_
    refine zi rfl rfl (zbu rfl rfl (show _ = ((4 : Nat) : Int) by rw [hk31]; rfl) rfl zdi zn) ?_
    refine zaM st24 (k := 1) X X X X zn X X X<|fun w40 st41=>zr<|zK<|E<|zl<|zay X X t_om X<|zf X X<|Y ?_
    refine ⟨⟨k + 1, c0, c1, c2, c3, (x * ((s / 2 ^ (k : Int).toNat) % 2)), c5, h22⟩, ⟨rfl, trivial⟩, ?_, ⟨le23, st41, ?_, ?_⟩, ?_⟩
    ·exact zal
    ·first | omega | (simp; omega)
    ·simp only [sixK, Six.mk.injEq] at hc ⊢
     obtain ⟨q0, q1, q2, q3, q4, q5⟩ := hc
     refine ⟨?_, ?_, ?_, ?_, ?_, ?_⟩ <;> first | (rw [zhy (by omega)]; assumption) | (exact (zgH (by omega) hx).symm)
    show t.length - ((k + 1)) < t.length - k
    omega
   refine zl<|zf X X<|zf X X<|zf X X<|zf X X ?_
   refine zi rfl rfl (r_shr rfl rfl (by omega) (by omega)) ?_
   refine zi rfl rfl (r_and1 rfl rfl (by have q_ := zeW (b := (k : Int)) hs0.1 hs0.2; omega) (by have q_ := zeW (b := (k : Int)) hs0.1 hs0.2; omega)) ?_
   refine zi rfl rfl (r_mul rfl rfl (by have q_ := hb6 t (List.mem_of_getElem? ht) x (List.mem_of_getElem? hx); rcases bit_01 (s := s) (j := (k : Int)) with q2_ | q2_ <;> (rw [bitN] at q2_; rw [q2_]; omega))) ?_
   refine zi rfl rfl (zbu rfl rfl (show _ = ((5 : Nat) : Int) by rw [hk31]; rfl) rfl zdi zn) ?_
   refine zaM st24 (k := 1) X X X X zn X X X<|fun w42 st43=>zr<|zK<|E<|zl<|zay X X t_om X<|zf X X<|Y ?_
   refine ⟨⟨k + 1, c0, c1, c2, c3, c4, (x * ((s / 2 ^ (k : Int).toNat) % 2)), h22⟩, ⟨rfl, trivial⟩, ?_, ⟨le23, st43, ?_, ?_⟩, ?_⟩
   ·exact zal
   ·first | omega | (simp; omega)
   ·simp only [sixK, Six.mk.injEq] at hc ⊢
    obtain ⟨q0, q1, q2, q3, q4, q5⟩ := hc
    refine ⟨?_, ?_, ?_, ?_, ?_, ?_⟩ <;> first | (rw [zhy (by omega)]; assumption) | (exact (zgH (by omega) hx).symm)
   show t.length - ((k + 1)) < t.length - k
   omega
  refine zaA<|zo<|zo<|zak<|E<|zm<|zm ?_
  have hkey : Six.mk c0 c1 c2 c3 c4 c5 = sixK t s 6 := by rw [← sixK_len (hl t (List.mem_of_getElem? ht)), show t.length = k by omega]; exact hc
  refine zl<|zO (v := (.map (some mb6))) X X<|zcI (st24.get (k := 1) X) X Tryz.isAgg169 Tryz.sizeOf169 X X<|zi X X (r_lookF (k := (Six.mk c0 c1 c2 c3 c4 c5)) (zu := false) (six_key zdi zbU zA zn) Tryz.underlying168 hM_5 (st24.ent (k := 0) X) zfs X X X)<|Y ?_
  refine zad rfl (fun c44 => ?_) (fun c44 => ?_)
  ·
   refine W.sr<|zF X X<|Y<|zw<|zc<|zI<|zc<|zc<|zI<|zc<|zb Tryz.results61 ?_
   refine ⟨h22, _, rfl, st24.done, ?_⟩
   refine zq ?_
   exact (tells_stop hl he ht (by rw [← hm, ← hkey]; exact c44)).symm
  refine zx<|E<|zl<|zO (v := (.map (some mb6))) X X<|zcI (st24.get (k := 1) X) X Tryz.isAgg169 Tryz.sizeOf169 X X ?_
  refine OpsL.mapInsertF (i := 0) st24 hM_5 rfl hN_5 (six_key zdi zbU zA zn) Tryz.underlying168 (k := (Six.mk c0 c1 c2 c3 c4 c5)) (by rw [hm, hkey]; rw [hm, hkey] at *; exact sixM_none (by assumption)) rfl rfl (u := true) rfl ?_
  intro o45 w46 _ e47 f48 nd49 st50
  subst e47
  refine zr<|zK<|E<|zl<|zay X X t_om X<|zf X X<|Y ?_
  have l51 := le9.trans le23
  refine ⟨⟨i + 1, (putM m (Six.mk c0 c1 c2 c3 c4 c5) true), o45, h22⟩, ⟨rfl, trivial⟩, ?_, ⟨l51, st50.take 1, ?_, ?_, ?_, ?_, ?_⟩, ?_⟩
  ·exact zal
  ·have q := f48
   exact q
  ·have q := nd49
   exact q
  ·first | omega | (simp; omega)
  ·exact zcU hT (tells_next hl he ht (by rw [← hm, ← hkey]; simpa using c44))
  ·intro x_; rw [zit, sixM_succ ht, hm, hkey]
  show ts.length - ((i + 1)) < ts.length - i
  omega
 refine zaA<|zo<|zo<|zak<|E<|W.sr<|zF X X<|Y<|zw<|zb Tryz.results61 ?_
 refine ⟨h8, _, rfl, st10.done, ?_⟩
 refine zq ?_
 exact (zgI hT (by omega)).symm
theorem c_vote_Ask_2 {h : Heap} {w : World} (hs : Sub h w) {a_v : Value} {a : (List Int)} (a_f : Sl LInt h a_v a) {b_v : Value} {b : (List Int)} (b_f : Sl LInt h b_v b) : Calls Tryz.prog 64 #[a_v, b_v] w (Rets h w (fun _ _ res_ => res_ = .bool ((ziW a b)))) := by
 refine zL (n := 16) Tryz.func64 X X X<|have st0:=t_s0 hs;have a_f_b:=a_f.le;have b_f_b:=b_f.le;W.sr<|zF X X<|Y<|W.sr<|zO (v := a_v) X X<|zaC a_f X ze X<|zO (v := b_v) X X<|zaC b_f X ze X ?_
 refine zi rfl rfl (r_sub rfl rfl (by omega)) ?_
 refine zO (v := a_v) X X<|zO (v := b_v) X X<|zg st0 X X X Tryz.call66 X (zfB st0.sub a_f b_f)<|fun r1 w2 h3 le4 st5 q6=> ?_
 obtain rfl := q6
 refine zae (L := LInt) (xs := [((a.length : Int) - (b.length : Int)), (cmpL (a) (b))]) (cs := [.int .i64 ((a.length : Int) - (b.length : Int)), .int .i64 (cmpL (a) (b))]) st5 (Enc.cons (L := LInt) (vs := [.int .i64 ((a.length : Int) - (b.length : Int))]) (x := ((a.length : Int) - (b.length : Int))) (h := h3) (X) (Enc.cons (L := LInt) (vs := [.int .i64 (cmpL (a) (b))]) (x := (cmpL (a) (b))) (h := h3) (X) Enc.nil)) X X X ze Tryz.info3 X X X t_kr<|fun v7 w8 h11 le12 f9 st10=>zg st10 X X X Tryz.call65 X (ziU st10.sub f9)<|fun r13 w14 h15 le16 st17 q18=> ?_
 obtain rfl := q18
 refine zaO X X X<|zF X X<|Y<|zw<|zb Tryz.results64 ?_
 refine ⟨h15, _, rfl, st17.done, ?_⟩
 refine zq ?_
 exact before_eq a b
end Go.Pk

namespace Go.Pk
open Go Go.RowKit Go.Proofs
theorem c_vote_first_int {h : Heap} {w : World} (hs : Sub h w) {g : FuncId} {caps : List Value} {A : List (Int) → Heap → Value → Int → Prop} {T_ : List (Int)} (eg : ∀ a w, (callFunc g a).run Tryz.prog w = .ok (.enter g a) w) (seq : GivesA Tryz.prog g caps A (fun xs => xs = T_) h) {g2 : FuncId} {caps2 : List Value} {lt : Int → Int → Bool} {B : Int → Prop} (eg2 : ∀ a w, (callFunc g2 a).run Tryz.prog w = .ok (.enter g2 a) w) (hA : ∀ pre h u x, A pre h u x → u = .int .i64 x ∧ B x) (hB : ∀ h' w' x y, Le h h' → Sub h' w' → B x → B y → Calls Tryz.prog g2 (.int .i64 x :: .int .i64 y :: caps2).toArray w' (Rets h' w' fun _ _ r => r = .bool (lt x y))) : Calls Tryz.prog 71 #[.func (.func g) #[] caps.toArray, .func (.func g2) #[] caps2.toArray] w (Rets h w (fun _ _ res_ => res_ = .int .i64 ((zei lt 0 T_)))) := by
 refine V.calls (n := 20) Tryz.func71 X X X<|have st0:=t_s0 hs;zdj<|zbh X<|zJ st0 (v := (.func (.func g2) #[] caps2.toArray)) (cs := [(.func (.func g2) #[] caps2.toArray)]) X X X<|fun b1 w2 h3 le4 hc5 st6=>zt X X<|zr<|zaK<|zdj<|zbh X<|zX st6 Tryz.zeroValue3 X X<|fun b7 w8 st9=>zr<|zaK<|zdj<|zbh X<|zX st9 zfs X X<|fun b10 w11 st12=>zaM st12 (k := 1) X X X X zbd X X X<|fun w13 st14=>zr<|zaK<|zdj<|zdj<|zbh X<|zO X X<|zr<|zaK<|zgV ?_
 refine zhw (I := fun xs _ own_ => own_ = [[(b7, .cells (List.toArray [.int .i64 (zei lt 0 xs)]) 3)], [(b10, .cells (List.toArray [.bool (!List.isEmpty xs)]) 4)]] ∧ ∀ x ∈ xs, B x) (Ix := fun _ _ _ _ => False) st14 rfl eg rfl (seq _ _ _ le4) (by rintro _ _ _ _ h_ _; exact h_) (by intro _ _ _ _ _ h_ _; exact h_) ⟨rfl, by intro _ h_; cases h_⟩ ?_ ?_ ?_
 ·rintro l_ pre x h15 w16 _ tail u17 le18 ⟨rfl, hi20⟩ st19 hA21
  obtain ⟨rfl, hBx⟩ := hA _ _ _ _ hA21
  refine zbh X<|zt X X<|zr ?_
  refine APost.mk (own2 := [[(b7, .cells (List.toArray [.int .i64 (zei lt 0 pre)]) 3)], [(b10, .cells (List.toArray [.bool (!List.isEmpty pre)]) 4)]]) (Le.refl _) st19 ?_
  intro tail24 w23 st22
  refine zgV<|zdj<|zbh X<|zbR (st22.get (k := 1) X) X X zbE X<|zbr X X<|zU X X ?_
  refine zas (d := 12) rfl (fun g25 => ?_) (fun g25 => ?_)
  ·
   refine M X X X X X<|M X X X X X<|M X X X X X<|M X X X X X<|zQ (v := (.bool _)) X X X<|zr<|zaK ?_
   refine V.cond rfl (fun c26 => ?_) (fun c26 => ?_)
   ·
    refine zbh X<|zf X X<|zaM st22 (k := 0) X X X X zn X X X<|fun w27 st28=>zaM st28 (k := 1) X X X X zbd X X X<|fun w29 st30=>zr<|zdg ?_
    refine zdT (own3 := [[(b7, .cells (List.toArray [.int .i64 x]) 3)], [(b10, .cells (List.toArray [.bool true]) 4)]]) (Le.refl _) st30 ⟨?_, ?_⟩
    ·rw [first_one (by simpa using g25)]; simp
    ·exact fun z_ hz_ => (List.mem_append.1 hz_).elim (hi20 z_) (fun e_ => by rw [List.mem_singleton] at e_; rw [e_]; exact hBx)
   ·
    cases c26
  ·
   refine Z X X X<|U (j := 0) st22.sub (hc5.up le18) X X X Tryz.isAgg123 X<|Z X X X<|zf X X<|Z X X X<|zbR (st22.get (k := 0) X) X X zA X<|Z X X X ?_
   refine zcM (fs := []) (cs := caps2) st22 rfl rfl rfl rfl eg2 rfl (hB _ _ _ _ (le4.trans le18) st22.sub hBx (hi20 _ (firstL_mem (by simpa using g25)))) ?_
   intro r31 w32 h33 le34 st35 q36
   obtain rfl := q36
   refine zP (v := (.bool _)) X X X<|zr<|zaK ?_
   refine V.cond rfl (fun c37 => ?_) (fun c37 => ?_)
   ·
    refine zbh X<|zf X X<|zaM st35 (k := 0) X X X X zn X X X<|fun w38 st39=>zaM st39 (k := 1) X X X X zbd X X X<|fun w40 st41=>zr<|zdg ?_
    refine zdT (own3 := [[(b7, .cells (List.toArray [.int .i64 x]) 3)], [(b10, .cells (List.toArray [.bool true]) 4)]]) le34 st41 ⟨?_, ?_⟩
    ·rw [first_new (by simpa using g25) (by simpa using c37)]; simp
    ·exact fun z_ hz_ => (List.mem_append.1 hz_).elim (hi20 z_) (fun e_ => by rw [List.mem_singleton] at e_; rw [e_]; exact hBx)
   ·
    refine V.skip<|zdg ?_
    refine zdT (own3 := [[(b7, .cells (List.toArray [.int .i64 (zei lt 0 pre)]) 3)], [(b10, .cells (List.toArray [.bool (!List.isEmpty pre)]) 4)]]) le34 st35 ⟨?_, ?_⟩
    ·rw [first_old (by simpa using g25) (by simpa using c37)]; have q_ : (!List.isEmpty pre) = true := (by simpa using g25); rw [q_]; simp
    ·exact fun z_ hz_ => (List.mem_append.1 hz_).elim (hi20 z_) (fun e_ => by rw [List.mem_singleton] at e_; rw [e_]; exact hBx)
 ·rintro D42 xs h43 w44 _ le45 hS46 ⟨rfl, hi47⟩ st48
  refine zdg<|zaK<|zdj<|zbh X<|zbR (st48.get (k := 0) X) X X zA X<|zt X X<|zr<|zaK<|V.ret<|zhA (own := [[(b7, .cells (List.toArray [.int .i64 (zei lt 0 xs)]) 3)], [(b10, .cells (List.toArray [.bool (!List.isEmpty xs)]) 4)]]) st48<|fun w50 st49=>zb Tryz.results71 ?_
  refine ⟨h43, _, rfl, st49.done, ?_⟩
  refine zac ?_
  rw [hS46]
 intro _ _ _ _ _ _ _ hf_; exact hf_.elim
theorem c_vote_first_Lint {h : Heap} {w : World} (hs : Sub h w) {g : FuncId} {caps : List Value} {A : List (List Int) → Heap → Value → List Int → Prop} {T_ : List (List Int)} (eg : ∀ a w, (callFunc g a).run Tryz.prog w = .ok (.enter g a) w) (seq : GivesA Tryz.prog g caps A (fun xs => xs = T_) h) {g2 : FuncId} {caps2 : List Value} {lt : List Int → List Int → Bool} {B : List Int → Prop} (eg2 : ∀ a w, (callFunc g2 a).run Tryz.prog w = .ok (.enter g2 a) w) (hA : ∀ pre h u x, A pre h u x → Sl LInt h u x ∧ B x) (hB : ∀ h' w' x y vx vy, Le h h' → Sub h' w' → Sl LInt h' vx x → Sl LInt h' vy y → B x → B y → Calls Tryz.prog g2 (vx :: vy :: caps2).toArray w' (Rets h' w' fun _ _ r => r = .bool (lt x y))) : Calls Tryz.prog 63 #[.func (.func g) #[] caps.toArray, .func (.func g2) #[] caps2.toArray] w (Rets h w (fun h' _ res_ => ∃ u0, res_ = u0 ∧ Sl LInt h' u0 ((zei lt [] T_)))) := by
 refine V.calls (n := 20) Tryz.func63 X X X<|have st0:=t_s0 hs;zdj<|zbh X<|zJ st0 (v := (.func (.func g2) #[] caps2.toArray)) (cs := [(.func (.func g2) #[] caps2.toArray)]) X X X<|fun b1 w2 h3 le4 hc5 st6=>zcv X X<|zr<|zaK<|zdj<|zbh X<|zX st6 Tryz.zeroValue42 X X<|fun b7 w8 st9=>zr<|zaK<|zdj<|zbh X<|zX st9 zfs X X<|fun b10 w11 st12=>zaM st12 (k := 1) X X X X zbd X X X<|fun w13 st14=>zr<|zaK<|zdj<|zdj<|zbh X<|zO X X<|zr<|zaK<|zgV ?_
 refine zhw (I := fun xs h_ own_ => ∃ (v_ : Value), own_ = [[(b7, .cells (List.toArray [v_]) 42)], [(b10, .cells (List.toArray [.bool (!List.isEmpty xs)]) 4)]] ∧ (Sl LInt h_ v_ (zei lt [] xs) ∧ ∀ x ∈ xs, B x)) (Ix := fun _ _ _ _ => False) st14 rfl eg rfl (seq _ _ _ le4) (by rintro xs_ h1_ h2_ o1_ ⟨v_, rfl, q_, r_⟩ l_; exact ⟨v_, rfl, q_.up l_, r_⟩) (by intro _ _ _ _ _ h_ _; exact h_) ⟨.slice none 0 0, rfl, by exact ⟨Sl.nil _ _, fun _ h_ => by cases h_⟩⟩ ?_ ?_ ?_
 ·rintro l_ pre x h15 w16 _ tail u17 le18 ⟨v_, rfl, hi20⟩ st19 hA21
  have hBx := (hA _ _ _ _ hA21).2
  refine zbh X<|zaa (v := u17) X X<|zr ?_
  refine APost.mk (own2 := [[(b7, .cells (List.toArray [v_]) 42)], [(b10, .cells (List.toArray [.bool (!List.isEmpty pre)]) 4)]]) (Le.refl _) st19 ?_
  intro tail24 w23 st22
  refine zgV<|zdj<|zbh X<|zbR (st22.get (k := 1) X) X X zbE X<|zbr X X<|zU X X ?_
  refine zas (d := 12) rfl (fun g25 => ?_) (fun g25 => ?_)
  ·
   refine M X X X X X<|M X X X X X<|M X X X X X<|M X X X X X<|zQ (v := (.bool _)) X X X<|zr<|zaK ?_
   refine V.cond rfl (fun c26 => ?_) (fun c26 => ?_)
   ·
    refine zbh X<|zO (v := u17) X X<|zaM st22 (k := 0) X X (v := u17) X (hA _ _ _ _ hA21).1.one zbs X X X<|fun w27 st28=>zaM st28 (k := 1) X X X X zbd X X X<|fun w29 st30=>zr<|zdg ?_
    refine zdT (own3 := [[(b7, .cells (List.toArray [u17]) 42)], [(b10, .cells (List.toArray [.bool true]) 4)]]) (Le.refl _) st30 ⟨u17, ?_, ?_⟩
    ·simp
    ·exact ⟨Sl.to (hA _ _ _ _ hA21).1 (by exact (first_one (by simpa using g25)).symm), fun z_ hz_ => (List.mem_append.1 hz_).elim (hi20.2 z_) (fun e_ => by rw [List.mem_singleton] at e_; rw [e_]; exact hBx)⟩
   ·
    cases c26
  ·
   refine Z X X X<|U (j := 0) st22.sub (hc5.up le18) X X X Tryz.isAgg47 X<|Z X X X<|zO (v := u17) X X<|Z X X X<|zbR (st22.get (k := 0) X) X X zbI X<|Z X X X ?_
   refine zcM (fs := []) (cs := caps2) st22 rfl rfl rfl rfl eg2 rfl (hB _ _ _ _ _ _ (le4.trans le18) st22.sub (hA _ _ _ _ hA21).1 hi20.1 hBx (hi20.2 _ (firstL_mem (by simpa using g25)))) ?_
   intro r31 w32 h33 le34 st35 q36
   obtain rfl := q36
   refine zP (v := (.bool _)) X X X<|zr<|zaK ?_
   refine V.cond rfl (fun c37 => ?_) (fun c37 => ?_)
   ·
    refine zbh X<|zO (v := u17) X X<|zaM st35 (k := 0) X X (v := u17) X (hA _ _ _ _ hA21).1.one zbs X X X<|fun w38 st39=>zaM st39 (k := 1) X X X X zbd X X X<|fun w40 st41=>zr<|zdg ?_
    refine zdT (own3 := [[(b7, .cells (List.toArray [u17]) 42)], [(b10, .cells (List.toArray [.bool true]) 4)]]) le34 st41 ⟨u17, ?_, ?_⟩
    ·simp
    ·exact ⟨Sl.to ((hA _ _ _ _ hA21).1.up le34) (by exact (first_new (by simpa using g25) (by simpa using c37)).symm), fun z_ hz_ => (List.mem_append.1 hz_).elim (hi20.2 z_) (fun e_ => by rw [List.mem_singleton] at e_; rw [e_]; exact hBx)⟩
   ·
    refine V.skip<|zdg ?_
    refine zdT (own3 := [[(b7, .cells (List.toArray [v_]) 42)], [(b10, .cells (List.toArray [.bool (!List.isEmpty pre)]) 4)]]) le34 st35 ⟨v_, ?_, ?_⟩
    ·have q_ : (!List.isEmpty pre) = true := (by simpa using g25); rw [q_]; simp
    ·exact ⟨Sl.to (hi20.1.up le34) (by exact (first_old (by simpa using g25) (by simpa using c37)).symm), fun z_ hz_ => (List.mem_append.1 hz_).elim (hi20.2 z_) (fun e_ => by rw [List.mem_singleton] at e_; rw [e_]; exact hBx)⟩
 ·rintro D42 xs h43 w44 _ le45 hS46 ⟨v_, rfl, hi47⟩ st48
  refine zdg<|zaK<|zdj<|zbh X<|zbR (st48.get (k := 0) X) X X zbI X<|zaa (v := v_) X X<|zr<|zaK<|V.ret<|zhA (own := [[(b7, .cells (List.toArray [v_]) 42)], [(b10, .cells (List.toArray [.bool (!List.isEmpty xs)]) 4)]]) st48<|fun w50 st49=>zb Tryz.results63 ?_
  refine ⟨h43, _, rfl, st49.done, ?_⟩
  refine ⟨_, rfl, Sl.to hi47.1 ?_⟩
  rw [hS46]
 intro _ _ _ _ _ _ _ hf_; exact hf_.elim
end Go.Pk

namespace Go.Pk
open Go Go.RowKit Go.Proofs
theorem c_vote_Ask_1 {h0 h : Heap} {w0 w : World} {rest : Own} {l : Nat} {p_b : Nat} {p : Poll} {p_v0 : Value} (p_f0 : Sl LChapter h p_v0 p.text.chapters) {p_v1 : Value} (p_f1 : Sl LRule h p_v1 p.lexicon.rules) {p_v2 : Value} (p_f2 : Sl LDecision h p_v2 p.lexicon.decisions) {p_v3 : Value} (p_f3 : Sl LQuestion h p_v3 p.questions) {p_v4 : Value} (p_f4 : Sl LVoter h p_v4 p.voters) (p_c : Cells h p_b 0 [p_v0, p_v1, p_v2, p_v3, p_v4]) {ls_b : Nat} {ls_v : Value} {ls : (List (List Int))} (ls_f : Sl (LSl LInt) h ls_v ls) (ls_c : Cells h ls_b 0 [ls_v]) {J Jx : List (List Int) → Heap → Own → Prop} (hJm : ∀ xs h1 h2 o, J xs h1 o → Le h1 h2 → J xs h2 o) (hJxm : ∀ xs h1 h2 o, Jx xs h1 o → Le h1 h2 → Jx xs h2 o) (hJ0 : J [] h rest) (hY : ∀ pre x h1 w1 B rest us, Le h h1 → J pre h1 rest → St h0 w0 h1 w1 (B ++ rest) → (∃ u_, us = [u_] ∧ Sl LInt h1 u_ x ∧ x.length ≤ 6) → Yields Tryz.prog l us.toArray w1 fun v w2 => ∃ h2 rest2, Le h1 h2 ∧ St h0 w0 h2 w2 (B ++ rest2) ∧ ((v = .bool true ∧ J (pre ++ [x]) h2 rest2) ∨ (v = .bool false ∧ Jx (pre ++ [x]) h2 rest2))) (hp : zcF p = true) (hl : ∀ t ∈ ls, t ∈ zB p) (hn : ls.length ≤ 1000) (st0 : St h0 w0 h w rest) : Calls Tryz.prog 60 #[.func (.yield l) #[] #[], .pointer (some ⟨p_b, 0, none⟩), .pointer (some ⟨ls_b, 0, none⟩)] w (fun e_ w' => ∃ h' rest' v_, e_ = .returned v_ ∧ Le h h' ∧ St h0 w0 h' w' rest' ∧ ((∃ xs, xs = askC ls p.questions.length (2 ^ p.questions.length) ∧ J xs h' rest') ∨ (∃ pre, Jx pre h' rest'))) := by
 refine zL (n := 23) Tryz.func60 X X X ?_
 have p_f0_b := p_f0.le
 have p_f1_b := p_f1.le
 have p_f2_b := p_f2.le
 have p_f3_b := p_f3.le
 have p_f4_b := p_f4.le
 have ls_f_b := ls_f.le
 have hpl := zck hp
 have hpw := pow_le (n := p.questions.length) (by omega)
 refine W.sr<|O X zD X zbl X X<|U (j := 3) st0.sub p_c X X X zbx X<|zaC p_f3 X zaq X ?_
 refine zi rfl rfl (r_shl1 rfl rfl (by omega) (by omega)) ?_
 refine zf X X<|Y<|zH ?_
 refine zao ([4] ++ t_rg 9 14) (G := Nat × Own × Heap) (fun ⟨s, rest, h1⟩ => [(9, .int .i64 (s : Int))]) (fun ⟨s, rest, h1⟩ w' => Le h h1 ∧ St h0 w0 h1 w' (rest) ∧ (s ≤ 2 ^ p.questions.length) ∧ (J (askC ls 6 s) h1 rest)) (fun ⟨s, rest, h1⟩ => 2 ^ p.questions.length - s) ⟨0, rest, h⟩ ⟨rfl, trivial⟩ ⟨Le.refl _, st0, zaP, (by exact hJm _ _ _ _ hJ0 (Le.refl _))⟩ ?_
 rintro ⟨s, rest, h1⟩ _ w4 ⟨le2, st3, hs, hJ⟩
 refine W.sr<|zaO X X X<|Y<|zm ?_
 refine zG rfl (fun c5 => ?_) (fun c5 => ?_)
 ·
  refine zx<|E<|zm<|zH<|W.sr<|zf X X<|zt X X<|Y<|W.sr<|U (j := 0) st3.sub (ls_c.up le2) X X X zeO X<|zf X X ?_
  refine zg st3 rfl rfl rfl Tryz.call61 rfl (c_vote_tells st3.sub (ls_f.up le2) _ (by omega) (by intro t_ ht_; have q_ := zdl (hl t_ ht_); omega) (by intro t_ ht_ u_ hu_; rw [zdl (hl t_ ht_), zdl (hl u_ hu_)]) (by exact truths_small hp hl)) ?_
  intro r6 w7 h8 le9 st10 q11
  obtain rfl := q11
  refine zU X X ?_
  refine zas (d := 15) rfl (fun g12 => ?_) (fun g12 => ?_)
  ·
   refine Z X X X<|zO X X<|Z X X X<|zf X X<|Z X X X ?_
   refine zg st10 rfl rfl rfl Tryz.call62 rfl (c_vote_members st10.sub _ (by omega)) ?_
   intro r13 w14 h15 le16 st17 q18
   obtain ⟨v19, e21, f20⟩ := q18
   rw [← e21] at f20
   have f20_b := f20.le
   refine Z X X X ?_
   have hJc := hJm _ _ _ _ hJ (le9.trans le16)
   have hAc : ∃ u_, [r13] = [u_] ∧ Sl LInt h15 u_ (zbJ (s : Int) 6) ∧ (zbJ (s : Int) 6).length ≤ 6 := ⟨_, rfl, f20, zhW _ _⟩
   have l30 := (le2.trans le9).trans le16
   refine zeH rfl rfl rfl rfl rfl (hY _ _ _ _ [] rest _ l30 hJc st17 hAc) ?_
   intro yb22 w23 h24 rest25 le26 st27 hj28 hx29
   refine Z X X X<|zbr X X<|zQ (v := (.bool _)) X X X<|Y ?_
   refine zad rfl (fun c31 => ?_) (fun c31 => ?_)
   ·
    refine zw<|zI<|zc<|zc<|zI<|zgP Tryz.results60 ?_
    exact ⟨_, _, _, rfl, (l30.trans le26), st27, .inr ⟨_, hJxm _ _ _ _ (hx29 (by simpa using c31)) (Le.refl _)⟩⟩
   refine zx<|zK<|E<|zl<|zay X X t_om X<|zf X X<|Y ?_
   have l32 := l30.trans le26
   refine ⟨⟨s + 1, rest25, h24⟩, ⟨rfl, trivial⟩, ?_, ⟨l32, st27, ?_, ?_⟩, ?_⟩
   ·exact zal
   ·first | omega | (simp; omega)
   ·rw [askC_succ, if_pos g12]; exact hJm _ _ _ _ (hj28 (by simpa using c31)) (Le.refl _)
   show 2 ^ p.questions.length - ((s + 1)) < 2 ^ p.questions.length - s
   omega
  refine M X X X X X<|M X X X X X<|M X X X X X<|M X X X X X<|M X X X X X<|zP (v := (.bool _)) X X X<|Y ?_
  refine zad rfl (fun c33 => ?_) (fun c33 => ?_)
  ·
   cases c33
  refine zx<|zK<|E<|zl<|zay X X t_om X<|zf X X<|Y ?_
  have l34 := le2.trans le9
  refine ⟨⟨s + 1, rest, h8⟩, ⟨rfl, trivial⟩, ?_, ⟨l34, st10, ?_, ?_⟩, ?_⟩
  ·exact zal
  ·first | omega | (simp; omega)
  ·rw [askC_succ, if_neg (by rw [g12]; simp), List.append_nil]; exact hJm _ _ _ _ hJ le9
  show 2 ^ p.questions.length - ((s + 1)) < 2 ^ p.questions.length - s
  omega
 refine zaA<|zo<|zo<|zak<|Post.end0 Tryz.results60 ?_
 exact ⟨_, _, _, rfl, le2, st3, .inl ⟨_, rfl, by rw [← askC_six (by omega) _ (Nat.le_refl _), show 2 ^ p.questions.length = s by omega]; exact hJm _ _ _ _ hJ (Le.refl _)⟩⟩
theorem c_vote_Next_1 {h0 h : Heap} {w0 w : World} {rest : Own} {l : Nat} {p_b : Nat} {p : Poll} {p_v0 : Value} (p_f0 : Sl LChapter h p_v0 p.text.chapters) {p_v1 : Value} (p_f1 : Sl LRule h p_v1 p.lexicon.rules) {p_v2 : Value} (p_f2 : Sl LDecision h p_v2 p.lexicon.decisions) {p_v3 : Value} (p_f3 : Sl LQuestion h p_v3 p.questions) {p_v4 : Value} (p_f4 : Sl LVoter h p_v4 p.voters) (p_c : Cells h p_b 0 [p_v0, p_v1, p_v2, p_v3, p_v4]) {ls_b : Nat} {ls_v : Value} {ls : (List (List Int))} (ls_f : Sl (LSl LInt) h ls_v ls) (ls_c : Cells h ls_b 0 [ls_v]) {J Jx : List (Int) → Heap → Own → Prop} (hJm : ∀ xs h1 h2 o, J xs h1 o → Le h1 h2 → J xs h2 o) (hJxm : ∀ xs h1 h2 o, Jx xs h1 o → Le h1 h2 → Jx xs h2 o) (hJ0 : J [] h rest) (hY : ∀ pre x h1 w1 B rest us, Le h h1 → J pre h1 rest → St h0 w0 h1 w1 (B ++ rest) → (∃ u_, us = [u_] ∧ u_ = .int .i64 x ∧ (0 ≤ x ∧ x < (p.questions.length : Int))) → Yields Tryz.prog l us.toArray w1 fun v w2 => ∃ h2 rest2, Le h1 h2 ∧ St h0 w0 h2 w2 (B ++ rest2) ∧ ((v = .bool true ∧ J (pre ++ [x]) h2 rest2) ∨ (v = .bool false ∧ Jx (pre ++ [x]) h2 rest2))) (hp : zcF p = true) (hl : ∀ t ∈ ls, t ∈ zB p) (hn : ls.length ≤ 1000) (st0 : St h0 w0 h w rest) : Calls Tryz.prog 69 #[.func (.yield l) #[] #[], .pointer (some ⟨p_b, 0, none⟩), .pointer (some ⟨ls_b, 0, none⟩)] w (fun e_ w' => ∃ h' rest' v_, e_ = .returned v_ ∧ Le h h' ∧ St h0 w0 h' w' rest' ∧ ((∃ xs, xs = nextC ls p.questions.length ∧ J xs h' rest') ∨ (∃ pre, Jx pre h' rest'))) := by
 refine zL (n := 24) Tryz.func69 X X X<|have p_f0_b:=p_f0.le;have p_f1_b:=p_f1.le;have p_f2_b:=p_f2.le;have p_f3_b:=p_f3.le;have p_f4_b:=p_f4.le;have ls_f_b:=ls_f.le;have hpl:=zck hp;W.sr<|O X zD X zbl X X<|U (j := 3) st0.sub p_c X X X zbx X<|zaC p_f3 X zaq X<|zf X X<|Y<|zH ?_
 refine zao ([4] ++ t_rg 8 16) (G := Nat × Own × Heap) (fun ⟨k, rest, h1⟩ => [(8, .int .i64 (k : Int))]) (fun ⟨k, rest, h1⟩ w' => Le h h1 ∧ St h0 w0 h1 w' (rest) ∧ (k ≤ p.questions.length) ∧ (J (nextC ls k) h1 rest)) (fun ⟨k, rest, h1⟩ => p.questions.length - k) ⟨0, rest, h⟩ ⟨rfl, trivial⟩ ⟨Le.refl _, st0, zaP, (by exact hJm _ _ _ _ hJ0 (Le.refl _))⟩ ?_
 rintro ⟨k, rest, h1⟩ _ w4 ⟨le2, st3, hk, hJ⟩
 refine W.sr<|zaO X X X<|Y<|zm ?_
 refine zG rfl (fun c5 => ?_) (fun c5 => ?_)
 ·
  refine zx<|E<|zm<|zH<|W.sr<|zf X X<|zt X X<|Y<|zm ?_
  rcases Bool.eq_false_or_eq_true (decide (((zcW (ls) ((k : Int)).toNat)) < (ls.length : Int))) with g6 | g6
  ·
   have g6_r := g6
   replace g6 := t_ot g6
   refine zbt (er := ([], [], [], [], 0)) (dsts := [11, 12, 13, 14, 15, 16, 17, 18, 19, 20, 21, 22]) st3 Tryz.mixed<|zh 0 [] X t_kr t_kr X X (fun hD wD τD hL hS hO  => (zd (j := 0) (hL.sub hS) (ls_c.up le2) X X X zeO))<|zh 1 [] X t_kr t_kr X X (fun hD wD τD hL hS hO  => (zha X)) ?_
   refine zaF 2 (.det (.int .i64 ((zcW (ls) ((k : Int)).toNat)))) [1, 0] rfl t_kr t_kr ?_ ?_
   ·
    intro hD wD τD hL hS hO _ _ _ _
    have st7 := St.start hS
    refine zg st7 rfl rfl rfl Tryz.call70 rfl (zhu st7.sub (ls_f.up (le2.trans hL)) _ (by omega) (by exact zgl hp hl (by omega) (by omega)) (by exact hn)) ?_
    intro r8 w9 h10 le11 st12 q13
    obtain rfl := q13
    exact zr ⟨_, _, rfl, st12, (), rfl, trivial⟩
   refine zh 3 [] X t_kr t_kr X X (fun hD wD τD hL hS hO  => (zd (j := 0) (hL.sub hS) (ls_c.up le2) X X X zeO))<|zh 4 [0] X t_kr t_kr X X (fun hD wD τD hL hS hO _ _ => (r_len (ls_f.up le2) X zap))<|zh 5 [2, 0] X t_kr t_kr X X (fun hD wD τD hL hS hO _ _ _ _ => (Run.lit (r_lss X X) g6_r))<|zh 6 [0, 3] X t_kr t_kr X X (fun hD wD τD hL hS hO _ _ _ _ => (zeT X))<|zaU 7 [0] X t_kr t_kr X X X (fun hD wD τD hL hS hO _ _ => ⟨rfl, (zeZ X)⟩)<|zaU 8 [1] X t_kr t_kr X X X (fun hD wD τD hL hS hO _ _ => ⟨rfl, (zha X)⟩)<|zcz<|zcz<|zcz<|zcj X X X X X X ⟨t_kr, X, t_kr, X, t_kr, X, X, t_kr, (zbP X (zbP X (zbP X zcZ)))⟩<|fun hE15 w16 _ le17 st18 _ _ _ _ _ _=>Z X X X ?_
   have hJc := hJm _ _ _ _ hJ le17
   have hAc : ∃ u_, [Value.int .i64 (k : Int)] = [u_] ∧ (u_ = .int .i64 (k : Int) ∧ (0 ≤ (k : Int) ∧ (k : Int) < (p.questions.length : Int))) := ⟨_, rfl, rfl, by omega, by omega⟩
   have l27 := le2.trans le17
   refine zeH rfl rfl rfl rfl rfl (hY _ _ _ _ [] rest _ l27 hJc st18 hAc) ?_
   intro yb19 w20 h21 rest22 le23 st24 hj25 hx26
   refine zr ⟨_, rfl, _, _, le23, st24, ?_⟩
   intro hE29 w30 _ le31 st32 _ _
   refine Z X X X<|zbr X X ?_
   refine zr ⟨_, rfl, _, _, Le.refl _, st32, ?_⟩
   intro hE34 w35 _ le36 st37 _ _
   refine zQ (v := (.bool _)) X X X ?_
   refine zr ⟨_, rfl, _, _, Le.refl _, st37, ?_⟩
   intro hE38 w39 _ le40 st41 _ _ _ _ _ _ _ _ _ _ _ _ _ _ _ _ _ _
   refine AllDeps.fin X<|E ?_
   refine zad rfl (fun c43 => ?_) (fun c43 => ?_)
   ·
    refine zw<|zI<|zc<|zc<|zI<|zgP Tryz.results69 ?_
    exact ⟨_, _, _, rfl, ((((l27.trans le23).trans le31).trans le36).trans le40), st41, .inr ⟨_, hJxm _ _ _ _ (hx26 (by simpa using c43)) ((le31.trans le36).trans le40)⟩⟩
   refine zx<|zK<|E<|zl<|zay X X t_om X<|zf X X<|Y ?_
   have l44 := (((l27.trans le23).trans le31).trans le36).trans le40
   refine ⟨⟨k + 1, rest22, hE38⟩, ⟨rfl, trivial⟩, ?_, ⟨l44, st41, ?_, ?_⟩, ?_⟩
   ·exact zal
   ·first | omega | (simp; omega)
   ·have q_ := g6; rw [Int.toNat_natCast] at q_; rw [ziI, if_pos q_]; exact hJm _ _ _ _ (hj25 (by simpa using c43)) ((le31.trans le36).trans le40)
   show p.questions.length - ((k + 1)) < p.questions.length - k
   omega
  have g6_r := g6
  replace g6 := t_of g6
  refine zbt (er := ([], [], [], [], 0)) (dsts := [11, 12, 13, 14, 15, 16, 17, 18, 19, 20, 21, 22]) st3 Tryz.mixed<|zh 0 [] X t_kr t_kr X X (fun hD wD τD hL hS hO  => (zd (j := 0) (hL.sub hS) (ls_c.up le2) X X X zeO))<|zh 1 [] X t_kr t_kr X X (fun hD wD τD hL hS hO  => (zha X)) ?_
  refine zaF 2 (.det (.int .i64 ((zcW (ls) ((k : Int)).toNat)))) [1, 0] rfl t_kr t_kr ?_ ?_
  ·
   intro hD wD τD hL hS hO _ _ _ _
   have st45 := St.start hS
   refine zg st45 rfl rfl rfl Tryz.call70 rfl (zhu st45.sub (ls_f.up (le2.trans hL)) _ (by omega) (by exact zgl hp hl (by omega) (by omega)) (by exact hn)) ?_
   intro r46 w47 h48 le49 st50 q51
   obtain rfl := q51
   exact zr ⟨_, _, rfl, st50, (), rfl, trivial⟩
  refine zh 3 [] X t_kr t_kr X X (fun hD wD τD hL hS hO  => (zd (j := 0) (hL.sub hS) (ls_c.up le2) X X X zeO))<|zh 4 [0] X t_kr t_kr X X (fun hD wD τD hL hS hO _ _ => (r_len (ls_f.up le2) X zap))<|zh 5 [2, 0] X t_kr t_kr X X (fun hD wD τD hL hS hO _ _ _ _ => (Run.lit (r_lss X X) g6_r))<|zh 6 [0, 3] X t_kr t_kr X X (fun hD wD τD hL hS hO _ _ _ _ => (zeT X))<|zaE 7 [0] X t_kr t_kr X X X X (fun hD wD τD hL hS hO _ _ => X)<|zaE 8 [1] X t_kr t_kr X X X X (fun hD wD τD hL hS hO _ _ => X)<|zaE 9 [1, 0, 2] X t_kr t_kr X X X X (fun hD wD τD hL hS hO _ _ _ _ _ _ => X)<|zaE 10 [0, 3] X t_kr t_kr X X X X (fun hD wD τD hL hS hO _ _ _ _ => X)<|zh 11 [4, 0] X t_kr t_kr X X (fun hD wD τD hL hS hO _ _ _ _ => (zfN (v := (.bool _)) X X))<|zcj X X X X X X ⟨t_kr, X, t_kr, X, t_kr, X, X, t_kr, zcZ⟩<|fun hE52 w53 _ le54 st55 _ _ _ _ _ _ _ _ _ _ _ _ _ _ _ _ _ _ _ _ _ _ _ _=>AllDeps.fin X<|E ?_
  refine zad rfl (fun c57 => ?_) (fun c57 => ?_)
  ·
   cases c57
  refine zx<|zK<|E<|zl<|zay X X t_om X<|zf X X<|Y ?_
  have l58 := le2.trans le54
  refine ⟨⟨k + 1, rest, hE52⟩, ⟨rfl, trivial⟩, ?_, ⟨l58, st55, ?_, ?_⟩, ?_⟩
  ·exact zal
  ·first | omega | (simp; omega)
  ·have q_ := g6; rw [Int.toNat_natCast] at q_; rw [ziI, if_neg q_, List.append_nil]; exact hJm _ _ _ _ hJ le54
  show p.questions.length - ((k + 1)) < p.questions.length - k
  omega
 refine zaA<|zo<|zo<|zak<|Post.end0 Tryz.results69 ?_
 exact ⟨_, _, _, rfl, le2, st3, .inl ⟨_, rfl, by rw [show p.questions.length = k by omega]; exact hJm _ _ _ _ hJ (Le.refl _)⟩⟩
theorem c_vote_Next_2 {h : Heap} {w : World} (hs : Sub h w) (a : Int) (b : Int) {ls_b : Nat} {ls_v : Value} {ls : (List (List Int))} (ls_f : Sl (LSl LInt) h ls_v ls) (ls_c : Cells h ls_b 0 [ls_v]) (ha : 0 ≤ a) (hb : 0 ≤ b) (hla : ∀ t ∈ ls, ∃ x_, t[a.toNat]? = some x_ ∧ 0 ≤ x_ ∧ x_ < 3) (hlb : ∀ t ∈ ls, ∃ x_, t[b.toNat]? = some x_ ∧ 0 ≤ x_ ∧ x_ < 3) (hn : ls.length ≤ 1000) : Calls Tryz.prog 72 #[.int .i64 a, .int .i64 b, .pointer (some ⟨ls_b, 0, none⟩)] w (Rets h w (fun _ _ res_ => res_ = .bool ((worseB ls a b)))) := by
 refine zL (n := 13) Tryz.func72 X X X<|have st0:=t_s0 hs;have ls_f_b:=ls_f.le;W.sr<|zF X X<|Y<|zm<|zby Tryz.mixed t_kr (Cls h _) (Cls.drew st0)<|zC X X (fun _ hC => (zd (j := 0) hC.sub ls_c X X X zeO))<|zcr X X ?_
 refine zcy rfl rfl (fun _ => zaV rfl Tryz.call70 rfl) (fun _ hC => Rets.quiet hC (zhu hC.sub ls_f _ (by first | exact ha | exact hb) (by first | exact hla | exact hlb) (by exact hn))) ?_
 refine zC X X (fun _ hC => (zd (j := 0) hC.sub ls_c X X X zeO))<|zcr X X ?_
 refine zcy rfl rfl (fun _ => zaV rfl Tryz.call70 rfl) (fun _ hC => Rets.quiet hC (zhu hC.sub ls_f _ (by first | exact ha | exact hb) (by first | exact hla | exact hlb) (by exact hn))) ?_
 refine u_lss X X X<|zgY X X<|zbe ?_
 rintro w1 ⟨h2, s3⟩
 have st4 := st0.call0 s3
 refine E<|zw<|zb Tryz.results72 ?_
 refine ⟨h2, _, rfl, st4.done, ?_⟩
 refine zq ?_
 rfl
theorem c_vote_Wrongs {h : Heap} {w : World} (hs : Sub h w) {p : Poll} {p_v0 : Value} (p_f0 : Sl LChapter h p_v0 p.text.chapters) {p_v1 : Value} (p_f1 : Sl LRule h p_v1 p.lexicon.rules) {p_v2 : Value} (p_f2 : Sl LDecision h p_v2 p.lexicon.decisions) {p_v3 : Value} (p_f3 : Sl LQuestion h p_v3 p.questions) {p_v4 : Value} (p_f4 : Sl LVoter h p_v4 p.voters) (voter : Int) (K1 : Cells h 1 0 Tryz.glob1) (K0 : Cells h 0 0 Tryz.glob0) : Calls Tryz.prog 17 #[.agg #[p_v0, p_v1, p_v2, p_v3, p_v4], .int .i64 voter] w (Rets h w (fun _ _ res_ => res_ = .tuple #[.agg #[.int .i64 ((zfl p voter)).lo, .int .i64 ((zfl p voter)).hi], .int .i64 (allE p (inB voter 0 ((p.voters.length : Int) - 1)))])) := by
 refine zL (n := 75) Tryz.func17 X X X<|have st0:=t_s0 hs;have p_f0_b:=p_f0.le;have p_f1_b:=p_f1.le;have p_f2_b:=p_f2.le;have p_f3_b:=p_f3.le;have p_f4_b:=p_f4.le;W.sr<|zJ st0 (cs := [p_v0, p_v1, p_v2, p_v3, p_v4]) X X X<|fun b1 w2 h3 le4 hc5 st6=>zX st6 Tryz.zeroValue36 X X<|fun b7 w8 st9=>zt X X<|Y<|zm<|zbt (er := ([], [], [], [], 0)) (dsts := [16, 17, 18, 19, 20, 21, 22, 23, 24, 15, 25, 26, 6, 7]) st9 Tryz.mixed<|zh 0 [] X t_kr t_kr X X (fun hD wD τD hL hS hO  => (zaz (hL.sub hS) hc5 X zbn zaI X))<|zh 1 [] X t_kr t_kr X X (fun hD wD τD hL hS hO  => (zS X zD X zbi X))<|zh 2 [0] X t_kr t_kr X X (fun hD wD τD hL hS hO _ _ => (zd (j := 4) (hL.sub hS) hc5 X X X zbF))<|zh 3 [0] X t_kr t_kr X X (fun hD wD τD hL hS hO _ _ => (r_len (p_f4.up le4) X zan))<|zh 4 [0] X t_kr t_kr X X (fun hD wD τD hL hS hO _ _ => (r_sub X X t_om))<|zh 5 [] X t_kr t_kr X X (fun hD wD τD hL hS hO  => (zha X)) ?_
 refine zaF 6 (.res (fun h' res_ => Sl LInt h' res_ ([voter])) (fun _ _ _ hl f => f.up hl)) [0] rfl t_kr t_kr ?_ ?_
 ·
  intro hD wD τD hL hS hO _ _
  have st10 := St.start hS
  refine zae (L := LInt) (xs := [voter]) (cs := [.int .i64 voter]) st10 (Enc.cons (L := LInt) (vs := [.int .i64 voter]) (x := voter) (h := hD) (X) Enc.nil) X X X ze Tryz.info3 X X X t_kr<|fun v11 w12 h15 le16 f13 st14=> ?_
  exact zr ⟨_, _, rfl, st14, _, rfl, f13⟩
 refine zaF 7 (.det (.bool ((inB voter 0 ((p.voters.length : Int) - 1))))) [2, 0] rfl t_kr t_kr ?_ ?_
 ·
  intro hD wD τD hL hS hO _ _ gv6_0 gf6_0
  have st17 := St.start hS
  have con := (zeq st17.sub (lo := 0) (hi := ((p.voters.length : Int) - 1)) gf6_0)
  rw [inAll_one] at con
  refine zg st17 X X X zfk X con<|fun r18 w19 h20 le21 st22 q23=> ?_
  obtain rfl := q23
  clear con
  exact zr ⟨_, _, rfl, st22, (), rfl, trivial⟩
 refine zaF 8 (.res (fun h' res_ => ∃ gv8_0, res_ = .tuple #[gv8_0, .int .i64 (allE (p) (((inB voter 0 ((p.voters.length : Int) - 1)))))] ∧ Sl (LSl LInt) h' gv8_0 ((allL (p) (((inB voter 0 ((p.voters.length : Int) - 1))))))) (by rintro _ _ _ hl ⟨gv8_0, e_, gf8_0⟩; exact ⟨gv8_0, e_, gf8_0.up hl⟩)) [7, 0] rfl t_kr t_kr ?_ ?_
 ·
  intro hD wD τD hL hS hO _ _ _ _
  have st24 := St.start hS
  refine zg st24 X X X zhi X (zfg st24.sub (p := p) (p_f0.up (le4.trans hL)) (p_f1.up (le4.trans hL)) (p_f2.up (le4.trans hL)) (p_f3.up (le4.trans hL)) (p_f4.up (le4.trans hL)) _ (K1.up (le4.trans hL)) (K0.up (le4.trans hL)))<|fun r25 w26 h27 le28 st29 q30=> ?_
  obtain ⟨v31, rfl, f32⟩ := q30
  have f32_b := f32.le
  exact zr ⟨_, _, rfl, st29, _, rfl, ⟨_, rfl, f32⟩⟩
 refine zaF 9 (.res (fun h' res_ => ∃ gv9_0, res_ = .tuple #[gv9_0, .int .i64 ((allE (p) (((inB voter 0 ((p.voters.length : Int) - 1))))))] ∧ Sl (LSl LInt) h' gv9_0 (((allL (p) (((inB voter 0 ((p.voters.length : Int) - 1)))))))) (by rintro _ _ _ hl ⟨gv9_0, e_, gf9_0⟩; exact ⟨gv9_0, e_, gf9_0.up hl⟩)) [0] rfl t_kr t_kr ?_ ?_
 ·
  intro hD wD τD hL hS hO gv8_ gf8_
  obtain ⟨gv8_0, rfl, gf8_0⟩ := gf8_
  have st33 := St.start hS
  refine zcE X X ?_
  exact zr ⟨_, _, rfl, st33, _, rfl, ⟨_, rfl, gf8_0⟩⟩
 refine zaF 10 (.res (fun h' res_ => Sl (LSl LInt) h' res_ ((((allL (p) (((inB voter 0 ((p.voters.length : Int) - 1))))))))) (fun _ _ _ hl f => f.up hl)) [0] rfl t_kr t_kr ?_ ?_
 ·
  intro hD wD τD hL hS hO gv9_ gf9_
  obtain ⟨gv9_0, rfl, gf9_0⟩ := gf9_
  have st34 := St.start hS
  refine zM (v := gv9_0) X X X ?_
  exact zr ⟨_, _, rfl, st34, _, rfl, gf9_0⟩
 refine zaF 11 (.det (.int .i64 ((allE (p) (((inB voter 0 ((p.voters.length : Int) - 1)))))))) [1] rfl t_kr t_kr ?_ ?_
 ·
  intro hD wD τD hL hS hO gv9_ gf9_
  obtain ⟨gv9_0, rfl, gf9_0⟩ := gf9_
  have st35 := St.start hS
  refine zM (v := (.int _ _)) X X X ?_
  exact zr ⟨_, _, rfl, st35, (), rfl, trivial⟩
 refine zaF 12 (.res (fun h' res_ => Sl (LSl LInt) h' res_ (((((allL (p) (((inB voter 0 ((p.voters.length : Int) - 1)))))))))) (fun _ _ _ hl f => f.up hl)) [11, 10, 9, 8, 7, 6, 5, 4, 3, 2, 1] rfl t_kr t_kr ?_ ?_
 ·
  intro hD wD τD hL hS hO _ _ _ _ _ _ _ _ _ _ _ _ gv6_0 gf6_0 _ _ gv8_ gf8_ gv9_ gf9_ gv10_0 gf10_0
  obtain ⟨gv8_0, rfl, gf8_0⟩ := gf8_
  obtain ⟨gv9_0, rfl, gf9_0⟩ := gf9_
  have st36 := St.start hS
  refine zaa (v := gv10_0) X X ?_
  exact zr ⟨_, _, rfl, st36, _, rfl, gf10_0⟩
 refine zh 13 [12, 11, 10, 9, 8, 7, 6, 5, 4, 3, 2, 1, 0] X t_kr t_kr X X (fun hD wD τD hL hS hO _ _ _ _ _ _ _ _ _ _ _ _ gv6_0 gf6_0 _ _ gv8_ gf8_ gv9_ gf9_ gv10_0 gf10_0 _ _ gv12_0 gf12_0 => (r_asI X))<|zcj X X X X X X ⟨t_kr, X, t_kr, X, t_kr, X, X, t_kr, zcZ⟩<|fun hE37 w38 _ le39 st40 _ _ _ _ _ _ _ _ _ _ _ _ gv6_0x41 gf6_0x41 _ _ gv8_x41 gf8_x41 gv9_x41 gf9_x41 gv10_0x41 gf10_0x41 _ _ gv12_0x41 gf12_0x41 _ _=> ?_
 obtain ⟨gv8_0x41, rfl, gf8_0x41⟩ := gf8_x41
 obtain ⟨gv9_0x41, rfl, gf9_0x41⟩ := gf9_x41
 refine AllDeps.fin X<|E<|zm<|W.sr<|zf X X<|zcA X X X<|Y ?_
 refine zG rfl (fun c42 => ?_) (fun c42 => ?_)
 ·
  refine W.sr<|zi X X (zbv (cs := [.int .i64 0, .int .i64 0]) t_kr)<|zf X X<|zN st40 (k := 0) X X X (za X (za X zau)) zej X X X<|fun w43 st44=>zt X X<|Y<|zw<|zc<|zcu Tryz.results17 X Tryz.isAgg36 zej X (st44.get (k := 0) X) ?_
  refine ⟨hE37, _, rfl, st44.done, ?_⟩
  refine tup2 ?_ (zac ?_)
  have hwz : zfl p voter = zSpan := by simp_all [zfl]
  all_goals first | (rw [hwz]; rfl) | rfl | (simp_all; done)
 refine zx<|E<|zm ?_
 have hz0 : allE p (inB voter 0 ((p.voters.length : Int) - 1)) = 0 := by simpa using c42
 obtain ⟨hk1, hk2, hk3, hk4⟩ := zhl hz0
 have hk5 := List.length_pos_iff.2 hk3
 have hk6 : (allL p (inB voter 0 ((p.voters.length : Int) - 1))).length = (zB p).length := by rw [hk4]
 have hk7 := zen (zbY hk1).2
 have hk8 := zck (zbY hk1).2
 have hin : (inB voter 0 ((p.voters.length : Int) - 1)) = true := (zhl hz0).2.1
 have hin2 : 0 ≤ voter ∧ voter < (p.voters.length : Int) := by simp only [inB, Bool.and_eq_true, decide_eq_true_eq] at hin; omega
 obtain ⟨v, hv⟩ : ∃ v, p.voters[voter.toNat]? = some v := ⟨_, List.getElem?_eq_getElem (by omega)⟩
 have hvo := zfa (zbY hk1).2 (List.mem_of_getElem? hv)
 refine zl<|zi X X (zbv (cs := [.int .i64 6, .int .i64 0]) t_kr)<|zX st40 Tryz.zeroValue36 X X<|fun b45 w46 st47=>zN st47 (k := 1) X X X (za X (za X zau)) zej X X X<|fun w48 st49=>Y<|zm<|W.sr<|zO (v := gv12_0x41) X X<|zaC gf12_0x41 X zap X<|zf X X<|Y<|zH ?_
 refine zao ([10, 11, 12, 13, 14] ++ t_rg 34 40) (G := Nat × Span × Heap) (fun ⟨i, sp, h50⟩ => [(34, .int .i64 (i : Int))]) (fun ⟨i, sp, h50⟩ w' => Le hE37 h50 ∧ St h w h50 w' [[(b7, .cells (List.toArray [.int .i64 0, .int .i64 0]) 36)], [(b45, .cells (List.toArray [.int .i64 sp.lo, .int .i64 sp.hi]) 36)]] ∧ (i ≤ (allL p (inB voter 0 ((p.voters.length : Int) - 1))).length) ∧ (sp = zec v ((allL p (inB voter 0 ((p.voters.length : Int) - 1))).take i))) (fun ⟨i, sp, h50⟩ => (allL p (inB voter 0 ((p.voters.length : Int) - 1))).length - i) ⟨0, ⟨6, 0⟩, hE37⟩ ⟨rfl, trivial⟩ ⟨Le.refl _, st49, zaP, (by rfl)⟩ ?_
 rintro ⟨i, sp, h50⟩ _ w53 ⟨le51, st52, hi, hsp⟩
 refine W.sr<|zaO X X X<|Y<|zm ?_
 refine zG rfl (fun c54 => ?_) (fun c54 => ?_)
 ·
  refine zx<|E<|zm<|zH<|W.sr ?_
  obtain ⟨t, ht⟩ : ∃ y_, ((((((allL (p) (((inB voter 0 ((p.voters.length : Int) - 1))))))))))[i]? = some y_ := t_ge (by omega)
  obtain ⟨b55, o56, _, he58, hc57, hr_t⟩ := Sl.elem (gf12_0x41.up le51) ht
  obtain ⟨v59, rfl, f60⟩ := hr_t
  have f60_b := f60.le
  refine zT he58 X X (hk := X) (hu := zap) (hz := zbs) X<|U (j := 0) st52.sub hc57 X X X zbI X<|zaa (v := v59) X X<|Y<|zm ?_
  have htm : t ∈ zB p := by rw [← hk4]; exact List.mem_of_getElem? ht
  have htl := zdl htm
  refine zl<|zt X X<|Y<|zm<|W.sr<|zO (v := v59) X X<|zaC f60 X ze X<|zf X X<|Y<|zH ?_
  refine zao ([11, 12, 13, 14] ++ t_rg 40 24) (G := Nat × Heap) (fun ⟨k, h61⟩ => [(11, .int .i64 (zeP v t k : Int)), (40, .int .i64 (k : Int))]) (fun ⟨k, h61⟩ w' => Le h50 h61 ∧ St h w h61 w' [[(b7, .cells (List.toArray [.int .i64 0, .int .i64 0]) 36)], [(b45, .cells (List.toArray [.int .i64 sp.lo, .int .i64 sp.hi]) 36)]] ∧ (k ≤ t.length)) (fun ⟨k, h61⟩ => t.length - k) ⟨0, h50⟩ ⟨rfl, rfl, trivial⟩ ⟨Le.refl _, st52, zaP⟩ ?_
  rintro ⟨k, h61⟩ _ w64 ⟨le62, st63, hk⟩
  have hwk := wrongK_le v t k
  refine W.sr<|zaO X X X<|Y<|zm ?_
  refine zG rfl (fun c65 => ?_) (fun c65 => ?_)
  ·
   refine zx<|E<|zm<|zH<|W.sr<|zf X X ?_
   obtain ⟨c, hc⟩ : ∃ y_, (t)[k]? = some y_ := t_ge (by omega)
   obtain ⟨b66, o67, _, he69, hc68, hr_c⟩ := Sl.elem (f60.up le62) hc
   obtain rfl := hr_c
   refine zT he69 X X (hk := X) (hu := ze) (hz := zn) X<|U (j := 0) st63.sub hc68 X X X zA X<|zt X X<|zt X X<|Y<|W.sr<|O X zD X zbi X X<|U (j := 4) st63.sub (hc5.up ((le39.trans le51).trans le62)) X X X zbF X<|zf X X ?_
   have l74 := ((le4.trans le39).trans le51).trans le62
   obtain ⟨b70, o71, _, he73, hc72, hr_v⟩ := Sl.elem (p_f4.up l74) hv
   obtain ⟨v75, rfl, f76⟩ := hr_v
   have f76_b := f76.le
   refine zi rfl rfl (zat he73 rfl rfl (hk := (show _ = ((voter.toNat : Nat) : Int) by omega)) (hu := zan) (hz := zbq)) ?_
   refine O X zaW X zbs X X<|U (j := 2) st63.sub hc72 X X X zbI X<|zf X X ?_
   obtain ⟨a, ha⟩ : ∃ y_, (v.votes)[k]? = some y_ := t_ge (by omega)
   obtain ⟨b77, o78, _, he80, hc79, hr_a⟩ := Sl.elem f76 ha
   obtain rfl := hr_a
   refine zT he80 X X (hk := X) (hu := ze) (hz := zn) X<|U (j := 0) st63.sub hc79 X X X zA X<|zt X X<|Y<|W.sr<|zf X X<|zhC X X X<|zU X X ?_
   refine zab (d := 56) rfl (fun g81 => ?_) (fun g81 => ?_)
   ·
    refine Z X X X<|zf X X<|Z X X X<|zf X X<|Z X X X<|zcA X X X<|zQ (v := (.bool _)) X X X<|Y ?_
    refine zG rfl (fun c82 => ?_) (fun c82 => ?_)
    ·
     refine zl<|zf X X ?_
     refine zi rfl rfl (zir rfl rfl (by have q_ := wrongK_le v t k; omega)) ?_
     refine zt X X<|zr<|zK<|E<|zl<|zay X X t_om X<|zf X X<|Y ?_
     refine ⟨⟨k + 1, h61⟩, ⟨?_, rfl, trivial⟩, ?_, ⟨le62, st63, ?_⟩, ?_⟩
     ·exact zac (by rw [zds]; first | (rw [zdI ha ?_]; simp; omega) | (rw [zcc ha hc]; simp_all; done) | (rw [zcc ha hc]; simp_all; omega))
     ·exact zal
     ·first | omega | (simp; omega)
     show t.length - ((k + 1)) < t.length - k
     omega
    refine zx<|zK<|E<|zl<|zay X X t_om X<|zf X X<|Y ?_
    refine ⟨⟨k + 1, h61⟩, ⟨?_, rfl, trivial⟩, ?_, ⟨le62, st63, ?_⟩, ?_⟩
    ·exact zac (by rw [zds]; first | (rw [zdI ha ?_]; simp; omega) | (rw [zcc ha hc]; simp_all; done) | (rw [zcc ha hc]; simp_all; omega))
    ·exact zal
    ·first | omega | (simp; omega)
    show t.length - ((k + 1)) < t.length - k
    omega
   refine M X X X X X<|M X X X X X<|M X X X X X<|zP (v := (.bool _)) X X X<|Y ?_
   refine zad rfl (fun c83 => ?_) (fun c83 => ?_)
   ·
    cases c83
   refine zx<|zK<|E<|zl<|zay X X t_om X<|zf X X<|Y ?_
   refine ⟨⟨k + 1, h61⟩, ⟨?_, rfl, trivial⟩, ?_, ⟨le62, st63, ?_⟩, ?_⟩
   ·exact zac (by rw [zds]; first | (rw [zdI ha ?_]; simp; omega) | (rw [zcc ha hc]; simp_all; done) | (rw [zcc ha hc]; simp_all; omega))
   ·exact zal
   ·first | omega | (simp; omega)
   show t.length - ((k + 1)) < t.length - k
   omega
  refine zaA<|zo<|zo<|zak<|E<|zl<|O X zdv X zn X X<|zbR (st63.get (k := 1) X) X X zA X<|zf X X<|zi X X (r_min X X)<|O X zdv X zn X X<|zbR (st63.get (k := 1) X) X X zA X<|zf X X<|zi X X (r_max X X)<|zi X X (zbv (cs := [.int .i64 (minI sp.lo (zeP v t k : Int)), .int .i64 (maxI sp.hi (zeP v t k : Int))]) t_kr)<|zN st63 (k := 1) X X X (za X (za X zau)) zej X X X<|fun w84 st85=>zr<|zK<|E<|zl<|zay X X t_om X<|zf X X<|Y ?_
  refine ⟨⟨i + 1, ⟨minI sp.lo (zeP v t k), maxI sp.hi (zeP v t k)⟩, h61⟩, ⟨rfl, trivial⟩, ?_, ⟨(le51.trans le62), st85, ?_, ?_⟩, ?_⟩
  ·exact zal
  ·first | omega | (simp; omega)
  ·rw [spanK_snoc ht, ← hsp, zbb, show ((List.range t.length).filter (zdU v t)).length = zeP v t t.length from rfl, show t.length = k by omega]
  show (allL p (inB voter 0 ((p.voters.length : Int) - 1))).length - ((i + 1)) < (allL p (inB voter 0 ((p.voters.length : Int) - 1))).length - i
  omega
 refine zaA<|zo<|zo<|zak<|E<|W.sr<|zcI (st52.get (k := 1) X) X Tryz.isAgg36 zej X X<|zN st52 (k := 0) X X X (za X (za X zau)) zej X X X<|fun w86 st87=>zt X X<|Y<|zw<|zcu Tryz.results17 X Tryz.isAgg36 zej X (st87.get (k := 0) X) ?_
 refine ⟨h50, _, rfl, st87.done, ?_⟩
 refine tup2 ?_ (zac ?_)
 all_goals first | exact hz0.symm | (rw [zfl, if_pos hz0, hv, hsp, List.take_of_length_le (by omega), hk4]; rfl)
theorem c_vote_Tally {h : Heap} {w : World} (hs : Sub h w) {p : Poll} {p_v0 : Value} (p_f0 : Sl LChapter h p_v0 p.text.chapters) {p_v1 : Value} (p_f1 : Sl LRule h p_v1 p.lexicon.rules) {p_v2 : Value} (p_f2 : Sl LDecision h p_v2 p.lexicon.decisions) {p_v3 : Value} (p_f3 : Sl LQuestion h p_v3 p.questions) {p_v4 : Value} (p_f4 : Sl LVoter h p_v4 p.voters) (question : Int) (K1 : Cells h 1 0 Tryz.glob1) (K0 : Cells h 0 0 Tryz.glob0) : Calls Tryz.prog 19 #[.agg #[p_v0, p_v1, p_v2, p_v3, p_v4], .int .i64 question] w (Rets h w (fun h' _ res_ => ∃ u0, res_ = .tuple #[u0, .int .i64 (zie p question)] ∧ Sl LInt h' u0 ((tallyR p question)))) := by
 refine zL (n := 54) Tryz.func19 X X X<|have st0:=t_s0 hs;have p_f0_b:=p_f0.le;have p_f1_b:=p_f1.le;have p_f2_b:=p_f2.le;have p_f3_b:=p_f3.le;have p_f4_b:=p_f4.le;W.sr<|zJ st0 (cs := [p_v0, p_v1, p_v2, p_v3, p_v4]) X X X<|fun b1 w2 h3 le4 hc5 st6=>zcv X X<|zt X X<|Y<|zm<|W.sr<|zz st6.sub hc5 X zbn zaI X X<|zg st6 X X X Tryz.call40 X (c_vote_Check st6.sub (p := p) (p_f0.up le4) (p_f1.up le4) (p_f2.up le4) (p_f3.up le4) (p_f4.up le4) (K1.up le4) (K0.up le4))<|fun r7 w8 h9 le10 st11 q12=> ?_
 obtain rfl := q12
 refine zt X X<|Y<|W.sr<|zf X X<|zcA X X X<|Y ?_
 refine zG rfl (fun c13 => ?_) (fun c13 => ?_)
 ·
  refine W.sr<|zf X X<|zcv X X<|zt X X<|Y<|zw<|zc<|zaY Tryz.results19 ?_
  refine ⟨h9, _, rfl, st11.done, ?_⟩
  refine ⟨_, tup2 rfl (zac ?_), Sl.to (Sl.nil _ _) ?_⟩
  all_goals (simp_all [tallyR, zie])
 refine zx<|E<|zm<|W.sr<|O X zD X zbl X X<|U (j := 3) st11.sub (hc5.up le10) X X X zbx X<|have l14:=le4.trans le10;zaC (p_f3.up l14) X zaq X<|zim X X t_om X<|zf X X<|zae (L := LInt) (xs := [question]) (cs := [.int .i64 question]) st11 (Enc.cons (L := LInt) (vs := [.int .i64 question]) (x := question) (h := h9) (X) Enc.nil) X X X ze Tryz.info3 X X X t_kr<|fun v15 w16 h19 le20 f17 st18=> ?_
 have con := (zeq st18.sub (lo := 0) (hi := ((p.questions.length : Int) - 1)) f17)
 rw [inAll_one] at con
 refine zg st18 X X X zfk X con<|fun r21 w22 h23 le24 st25 q26=> ?_
 obtain rfl := q26
 clear con
 refine zbr X X<|Y ?_
 refine zad rfl (fun c27 => ?_) (fun c27 => ?_)
 ·
  refine W.sr<|zcv X X<|zt X X<|Y<|zw<|zc<|zaY Tryz.results19 ?_
  refine ⟨h23, _, rfl, st25.done, ?_⟩
  refine ⟨_, tup2 rfl (zac ?_), Sl.to (Sl.nil _ _) ?_⟩
  all_goals (simp_all [tallyR, zie])
 refine zx<|E<|zm ?_
 have hk1 : zcw p = 0 := by simpa using c13
 have hin : inB question 0 ((p.questions.length : Int) - 1) = true := by simpa using c27
 have hin2 : 0 ≤ question ∧ question < (p.questions.length : Int) := by simp only [inB, Bool.and_eq_true, decide_eq_true_eq] at hin; omega
 obtain ⟨q, hq⟩ : ∃ q, p.questions[question.toNat]? = some q := ⟨_, List.getElem?_eq_getElem (by omega)⟩
 have hpb := (zbY hk1).2
 have hq0 := zfQ hpb hq
 have hpl := zck hpb
 have hte : zie p question = 0 := by rw [zie, if_neg (by simp [hk1]), if_pos hin]
 refine zl<|O X zD X zbl X X<|U (j := 3) st25.sub (hc5.up ((le10.trans le20).trans le24)) X X X zbx X<|zf X X ?_
 have l32 := (l14.trans le20).trans le24
 obtain ⟨b28, o29, _, he31, hc30, hr_q⟩ := Sl.elem (p_f3.up l32) hq
 obtain ⟨v33, rfl, f34⟩ := hr_q
 have f34_b := f34.le
 refine zi rfl rfl (zat he31 rfl rfl (hk := (show _ = ((question.toNat : Nat) : Int) by omega)) (hu := zaq) (hz := zbB)) ?_
 refine O X zaw X zbO X X<|U (j := 3) st25.sub hc30 X X X zcg X<|zaC f34 X zaQ X ?_
 refine OpsL.makeInts (m := q.heads.length) st25 rfl ze Tryz.info3 rfl rfl rfl rfl (by show 8 * (q.heads.length) ≤ 281474976710656; omega) (by omega) ?_
 intro v35 o36 w37 f38 st39
 refine zaa (v := v35) X X<|Y<|zm<|W.sr<|O X zD X zbi X X<|U (j := 4) st39.sub (hc5.up ((le10.trans le20).trans le24)) X X X zbF X<|zaC (p_f4.up l32) X zan X<|zf X X<|Y<|zH ?_
 refine zao ([9, 10] ++ t_rg 35 18) (G := Nat × List (Nat × Obj) × Heap) (fun ⟨i, o_7, h40⟩ => [(35, .int .i64 (i : Int))]) (fun ⟨i, o_7, h40⟩ w' => Le h23 h40 ∧ St h w h40 w' [o_7] ∧ (OSl LInt 3 h40 v35 ((zeY (p.voters.take i) question.toNat q.heads.length)) o_7) ∧ (i ≤ p.voters.length)) (fun ⟨i, o_7, h40⟩ => p.voters.length - i) ⟨0, o36, h23⟩ ⟨rfl, trivial⟩ ⟨Le.refl _, st39, (OSl.to f38 (by exact tally_zero _ _)), zaP⟩ ?_
 rintro ⟨i, o_7, h40⟩ _ w43 ⟨le41, st42, hO_7, hi⟩
 refine W.sr<|zaO X X X<|Y<|zm ?_
 refine zG rfl (fun c44 => ?_) (fun c44 => ?_)
 ·
  refine zx<|E<|zm<|zH<|W.sr ?_
  obtain ⟨v, hv⟩ : ∃ y_, (p.voters)[i]? = some y_ := t_ge (by omega)
  have l49 := l32.trans le41
  obtain ⟨b45, o46, _, he48, hc47, hr_v⟩ := Sl.elem (p_f4.up l49) hv
  obtain ⟨v50, rfl, f51⟩ := hr_v
  have f51_b := f51.le
  refine zT he48 X X (hk := X) (hu := zan) (hz := zbq) X<|zz st42.sub hc47 X Tryz.isAgg79 zbq X X<|zX st42 Tryz.zeroValue79 X X<|fun b52 w53 st54=>zN st54 (k := 1) X X X (za X (za X (za f51.one zau))) zbq X X X<|fun w55 st56=> ?_
  obtain ⟨h57, le58, hb59, st61⟩ := st56.freeze (k := 1) rfl
  have hc60 := Cells.of hb59
  refine Y<|W.sr<|O X zaW X zbs X X<|U (j := 2) st61.sub hc60 X X X zbI X<|zf X X ?_
  obtain ⟨a, ha⟩ : ∃ y_, (v.votes)[question.toNat]? = some y_ := t_ge (by have q1 := (zfa hpb (List.mem_of_getElem? hv)).2.2.1; omega)
  obtain ⟨b62, o63, _, he65, hc64, hr_a⟩ := Sl.elem (f51.up le58) ha
  obtain rfl := hr_a
  refine zi rfl rfl (zat he65 rfl rfl (hk := (show _ = ((question.toNat : Nat) : Int) by omega)) (hu := ze) (hz := zn)) ?_
  refine U (j := 0) st61.sub hc64 X X X zA X<|zt X X<|Y<|W.sr<|zf X X<|zhC X X X<|Y ?_
  refine zG rfl (fun c66 => ?_) (fun c66 => ?_)
  ·
   have ha0 := c66
   have hvk := votes_in (zfa hpb (List.mem_of_getElem? hv)).2.2.2 ha hq
   have htl := zfW (p.voters.take i) question.toNat q.heads.length
   refine zl<|zO (v := v35) X X<|zf X X ?_
   obtain ⟨x, hx⟩ : ∃ y_, ((zeY (p.voters.take i) question.toNat q.heads.length))[a.toNat]? = some y_ := t_ge (by omega)
   obtain ⟨b67, o68, cur69, _, e72, he70, hr_x, hc71⟩ := OSl.elem (hO_7.up le58) hx
   subst e72
   obtain rfl := hr_x
   refine zi rfl rfl (zat he70 rfl rfl (hk := (show _ = ((a.toNat : Nat) : Int) by omega)) (hu := ze) (hz := zn)) ?_
   refine zi X X (zcJ (j := 0) (st61.get (k := 0) X) hc71 X X X zA) ?_
   refine zi rfl rfl (zir rfl rfl (by have q1 := tally_small hx; rw [List.length_take] at q1; omega)) ?_
   obtain ⟨b73, o74, cur75, _, e78, he76, hr_x, hc77⟩ := OSl.elem (hO_7.up le58) hx
   obtain ⟨hb79, hc80⟩ : b67 = b73 ∧ cur69 = cur75 := by cases e78; exact ⟨rfl, rfl⟩
   subst hb79
   subst hc80
   obtain rfl := hr_x
   refine zi rfl rfl (zat he76 rfl rfl (hk := (show _ = ((a.toNat : Nat) : Int) by omega)) (hu := ze) (hz := zn)) ?_
   refine zek (k := 0) st61 (hO_7.up le58) rfl (by omega) he76 rfl rfl (rfl) zn ?_
   intro o81 w82 _ e83 f84 st85
   subst e83
   refine zr<|zK<|E<|zl<|zay X X t_om X<|zf X X<|Y ?_
   refine ⟨⟨i + 1, o81, h57⟩, ⟨rfl, trivial⟩, ?_, ⟨(le41.trans le58), st85.take 1, ?_, ?_⟩, ?_⟩
   ·exact zal
   ·refine OSl.to f84 ?_
    exact tally_set hv ha (by omega) hx
   ·first | omega | (simp; omega)
   show p.voters.length - ((i + 1)) < p.voters.length - i
   omega
  refine zx<|zK<|E<|zl<|zay X X t_om X<|zf X X<|Y ?_
  refine ⟨⟨i + 1, o_7, h57⟩, ⟨rfl, trivial⟩, ?_, ⟨(le41.trans le58), st61.take 1, ?_, ?_⟩, ?_⟩
  ·exact zal
  ·refine OSl.to (hO_7.up le58) ?_
   exact (tally_skip hv ha (by have q_ := c66; omega)).symm
  ·first | omega | (simp; omega)
  show p.voters.length - ((i + 1)) < p.voters.length - i
  omega
 refine zaA<|zo<|zo<|zak<|E<|W.sr<|zO (v := v35) X X<|zaa (v := v35) X X<|zt X X<|Y<|zw<|zaY Tryz.results19 ?_
 obtain ⟨h86, le87, f88, st89⟩ := OSl.freeze (k := 0) st42 hO_7 rfl (by rw [zfW]; omega)
 refine ⟨h86, _, rfl, st89.done, ?_⟩
 refine ⟨_, tup2 rfl (zac ?_), Sl.to f88 ?_⟩
 all_goals first | (simp_all [tallyR, zie]; done) | (rw [tallyR, if_pos hte, hq, List.take_of_length_le (by omega)]; rfl)
end Go.Pk

namespace Go.Pk
open Go Go.RowKit Go.Proofs
theorem gives_ask {h : Heap} {p_b : Nat} {p : Poll} {p_v0 : Value} (p_f0 : Sl LChapter h p_v0 p.text.chapters) {p_v1 : Value} (p_f1 : Sl LRule h p_v1 p.lexicon.rules) {p_v2 : Value} (p_f2 : Sl LDecision h p_v2 p.lexicon.decisions) {p_v3 : Value} (p_f3 : Sl LQuestion h p_v3 p.questions) {p_v4 : Value} (p_f4 : Sl LVoter h p_v4 p.voters) (p_c : Cells h p_b 0 [p_v0, p_v1, p_v2, p_v3, p_v4]) {ls_b : Nat} {ls_v : Value} {ls : (List (List Int))} (ls_f : Sl (LSl LInt) h ls_v ls) (ls_c : Cells h ls_b 0 [ls_v]) (hp : zcF p = true) (hl : ∀ t ∈ ls, t ∈ zB p) (hn : ls.length ≤ 1000) : GivesA Tryz.prog 60 [.pointer (some ⟨p_b, 0, none⟩), .pointer (some ⟨ls_b, 0, none⟩)] (fun (_ : List (List Int)) h_ u_ (x_ : List Int) => Sl LInt h_ u_ x_ ∧ x_.length ≤ 6) (fun xs => xs = askC ls p.questions.length (2 ^ p.questions.length)) h := by
 intro h0 w0 h1 l1 l J Jx hm hxm hY h2 w rest l2 hJ st
 exact c_vote_Ask_1 (p := p) (p_f0.up (l1.trans l2)) (p_f1.up (l1.trans l2)) (p_f2.up (l1.trans l2)) (p_f3.up (l1.trans l2)) (p_f4.up (l1.trans l2)) (p_c.up (l1.trans l2)) (ls_f.up (l1.trans l2)) (ls_c.up (l1.trans l2)) hm hxm hJ (fun _ _ _ _ _ _ _ l3 a b c => hY _ _ _ _ _ _ _ (l2.trans l3) a b c) hp hl hn st
theorem gives_next {h : Heap} {p_b : Nat} {p : Poll} {p_v0 : Value} (p_f0 : Sl LChapter h p_v0 p.text.chapters) {p_v1 : Value} (p_f1 : Sl LRule h p_v1 p.lexicon.rules) {p_v2 : Value} (p_f2 : Sl LDecision h p_v2 p.lexicon.decisions) {p_v3 : Value} (p_f3 : Sl LQuestion h p_v3 p.questions) {p_v4 : Value} (p_f4 : Sl LVoter h p_v4 p.voters) (p_c : Cells h p_b 0 [p_v0, p_v1, p_v2, p_v3, p_v4]) {ls_b : Nat} {ls_v : Value} {ls : (List (List Int))} (ls_f : Sl (LSl LInt) h ls_v ls) (ls_c : Cells h ls_b 0 [ls_v]) (hp : zcF p = true) (hl : ∀ t ∈ ls, t ∈ zB p) (hn : ls.length ≤ 1000) : GivesA Tryz.prog 69 [.pointer (some ⟨p_b, 0, none⟩), .pointer (some ⟨ls_b, 0, none⟩)] (fun (_ : List (Int)) h_ u_ (x_ : Int) => u_ = .int .i64 x_ ∧ (0 ≤ x_ ∧ x_ < (p.questions.length : Int))) (fun xs => xs = nextC ls p.questions.length) h := by
 intro h0 w0 h1 l1 l J Jx hm hxm hY h2 w rest l2 hJ st
 exact c_vote_Next_1 (p := p) (p_f0.up (l1.trans l2)) (p_f1.up (l1.trans l2)) (p_f2.up (l1.trans l2)) (p_f3.up (l1.trans l2)) (p_f4.up (l1.trans l2)) (p_c.up (l1.trans l2)) (ls_f.up (l1.trans l2)) (ls_c.up (l1.trans l2)) hm hxm hJ (fun _ _ _ _ _ _ _ l3 a b c => hY _ _ _ _ _ _ _ (l2.trans l3) a b c) hp hl hn st
theorem c_vote_Ask {h : Heap} {w : World} (hs : Sub h w) {p : Poll} {p_v0 : Value} (p_f0 : Sl LChapter h p_v0 p.text.chapters) {p_v1 : Value} (p_f1 : Sl LRule h p_v1 p.lexicon.rules) {p_v2 : Value} (p_f2 : Sl LDecision h p_v2 p.lexicon.decisions) {p_v3 : Value} (p_f3 : Sl LQuestion h p_v3 p.questions) {p_v4 : Value} (p_f4 : Sl LVoter h p_v4 p.voters) (K1 : Cells h 1 0 Tryz.glob1) (K0 : Cells h 0 0 Tryz.glob0) : Calls Tryz.prog 22 #[.agg #[p_v0, p_v1, p_v2, p_v3, p_v4]] w (Rets h w (fun h' _ res_ => ∃ u0, res_ = .tuple #[u0, .int .i64 (allE p true)] ∧ Sl LInt h' u0 ((askR7 p)))) := by
 refine zL (n := 18) Tryz.func22 X X X<|have st0:=t_s0 hs;have p_f0_b:=p_f0.le;have p_f1_b:=p_f1.le;have p_f2_b:=p_f2.le;have p_f3_b:=p_f3.le;have p_f4_b:=p_f4.le;W.sr<|zJ st0 (cs := [p_v0, p_v1, p_v2, p_v3, p_v4]) X X X<|fun b1 w2 h3 le4 hc5 st6=>zcv X X<|zt X X<|Y<|W.sr<|zz st6.sub hc5 X zbn zaI X X<|zg st6 X X X zhi X (zfg st6.sub (p := p) (p_f0.up le4) (p_f1.up le4) (p_f2.up le4) (p_f3.up le4) (p_f4.up le4) _ (K1.up le4) (K0.up le4))<|fun r7 w8 h9 le10 st11 q12=> ?_
 obtain ⟨v13, rfl, f14⟩ := q12
 have f14_b := f14.le
 refine zcE X X<|zM (v := v13) X X X<|zM (v := (.int _ _)) X X X<|zX st11 Tryz.zeroValue91 X X<|fun b15 w16 st17=>zaM st17 (k := 0) X X (v := v13) X f14.one Tryz.sizeOf91 X X X<|fun w18 st19=> ?_
 obtain ⟨h20, le21, hb22, st24⟩ := st19.freeze (k := 0) rfl
 have hc23 := Cells.of hb22
 refine zt X X<|Y<|zm<|W.sr<|zf X X<|zcA X X X<|Y ?_
 refine zG rfl (fun c25 => ?_) (fun c25 => ?_)
 ·
  refine W.sr<|zf X X<|zcv X X<|zt X X<|Y<|zw<|zc<|zaY Tryz.results22 ?_
  refine ⟨h20, _, rfl, st24.done, ?_⟩
  refine ⟨_, tup2 rfl (zac ?_), Sl.to (Sl.nil _ _) ?_⟩
  all_goals (simp_all [askR7])
 refine zx<|E<|zm ?_
 have hz0 : allE p true = 0 := by simpa using c25
 obtain ⟨hk1, hk2, hk3, hk4⟩ := zhl hz0
 have hk5 := List.length_pos_iff.2 hk3
 have hk6 : (allL p true).length = (zB p).length := by rw [hk4]
 have hk7 := zen (zbY hk1).2
 have hk8 := zck (zbY hk1).2
 have hpb := (zbY hk1).2
 have hal : ∀ t ∈ allL p true, t ∈ zB p := by rw [hk4]; exact fun _ q_ => q_
 refine zl<|zcH X X X<|zi X X (r_asF X)<|Y<|W.sr<|zgX X X ?_
 refine zg st24 rfl rfl rfl Tryz.call63 rfl (c_vote_first_Lint st24.sub (lt := ziW) (B := fun x => x.length ≤ 6) Tryz.call60 (gives_ask (p := p) (p_f0.up ((le4.trans le10).trans le21)) (p_f1.up ((le4.trans le10).trans le21)) (p_f2.up ((le4.trans le10).trans le21)) (p_f3.up ((le4.trans le10).trans le21)) (p_f4.up ((le4.trans le10).trans le21)) (hc5.up (le10.trans le21)) (f14.up le21) hc23 hpb (by rw [hk4]; exact fun _ q_ => q_) (by omega)) Tryz.call64 (fun _ _ _ _ q_ => q_) (fun _ _ _ _ _ _ _ s_ f1_ f2_ _ _ => c_vote_Ask_2 s_ f1_ f2_)) ?_
 intro r26 w27 h28 le29 st30 q31
 obtain ⟨v32, e34, f33⟩ := q31
 rw [← e34] at f33
 have f33_b := f33.le
 refine zaa (v := r26) X X<|zt X X<|Y<|zw<|zaY Tryz.results22 ?_
 refine ⟨h28, _, rfl, st30.done, ?_⟩
 refine ⟨_, tup2 rfl (zac ?_), Sl.to f33 ?_⟩
 all_goals first | exact hz0.symm | (rw [askR7, if_pos hz0, ← askK_first, hk4]; rfl) | (simp_all [askR7]; done)
theorem c_vote_Next {h : Heap} {w : World} (hs : Sub h w) {p : Poll} {p_v0 : Value} (p_f0 : Sl LChapter h p_v0 p.text.chapters) {p_v1 : Value} (p_f1 : Sl LRule h p_v1 p.lexicon.rules) {p_v2 : Value} (p_f2 : Sl LDecision h p_v2 p.lexicon.decisions) {p_v3 : Value} (p_f3 : Sl LQuestion h p_v3 p.questions) {p_v4 : Value} (p_f4 : Sl LVoter h p_v4 p.voters) (K1 : Cells h 1 0 Tryz.glob1) (K0 : Cells h 0 0 Tryz.glob0) : Calls Tryz.prog 24 #[.agg #[p_v0, p_v1, p_v2, p_v3, p_v4]] w (Rets h w (fun _ _ res_ => res_ = .tuple #[.int .i64 ((nextR p)), .int .i64 (nextE p)])) := by
 refine zL (n := 22) Tryz.func24 X X X<|have st0:=t_s0 hs;have p_f0_b:=p_f0.le;have p_f1_b:=p_f1.le;have p_f2_b:=p_f2.le;have p_f3_b:=p_f3.le;have p_f4_b:=p_f4.le;W.sr<|zJ st0 (cs := [p_v0, p_v1, p_v2, p_v3, p_v4]) X X X<|fun b1 w2 h3 le4 hc5 st6=>zt X X<|zt X X<|Y<|W.sr<|zz st6.sub hc5 X zbn zaI X X<|zg st6 X X X zhi X (zfg st6.sub (p := p) (p_f0.up le4) (p_f1.up le4) (p_f2.up le4) (p_f3.up le4) (p_f4.up le4) _ (K1.up le4) (K0.up le4))<|fun r7 w8 h9 le10 st11 q12=> ?_
 obtain ⟨v13, rfl, f14⟩ := q12
 have f14_b := f14.le
 refine zcE X X<|zM (v := v13) X X X<|zM (v := (.int _ _)) X X X<|zX st11 Tryz.zeroValue91 X X<|fun b15 w16 st17=>zaM st17 (k := 0) X X (v := v13) X f14.one Tryz.sizeOf91 X X X<|fun w18 st19=> ?_
 obtain ⟨h20, le21, hb22, st24⟩ := st19.freeze (k := 0) rfl
 have hc23 := Cells.of hb22
 refine zt X X<|Y<|zm<|W.sr<|zf X X<|zcA X X X<|Y ?_
 refine zG rfl (fun c25 => ?_) (fun c25 => ?_)
 ·
  refine W.sr<|zf X X<|zt X X<|zt X X<|Y<|zw<|zc<|zaY Tryz.results24 ?_
  refine ⟨h20, _, rfl, st24.done, ?_⟩
  refine tup2 (zac ?_) (zac ?_)
  all_goals (simp_all [nextR, nextE])
 refine zx<|E<|zm<|zm ?_
 have hz0 : allE p true = 0 := by simpa using c25
 obtain ⟨hk1, hk2, hk3, hk4⟩ := zhl hz0
 have hk5 := List.length_pos_iff.2 hk3
 have hk6 : (allL p true).length = (zB p).length := by rw [hk4]
 have hk7 := zen (zbY hk1).2
 have hk8 := zck (zbY hk1).2
 have hpb := (zbY hk1).2
 have hal : ∀ t ∈ allL p true, t ∈ zB p := by rw [hk4]; exact fun _ q_ => q_
 refine zl<|U (j := 0) st24.sub hc23 X X X zeO X<|zaC (f14.up le21) X zap X<|zcX X X X<|Y ?_
 refine zG rfl (fun c26 => ?_) (fun c26 => ?_)
 ·
  refine W.sr<|zt X X<|zt X X<|Y<|zw<|zc<|zaY Tryz.results24 ?_
  have q_ : (zB p).length = 1 := by have q2_ := c26; rw [hk4] at q2_; omega
  refine ⟨h20, _, rfl, st24.done, ?_⟩
  refine tup2 (zac ?_) (zac ?_)
  all_goals simp [nextR, nextE, hz0, q_]
 refine zx<|E<|zm ?_
 have hl1 : 1 < (zB p).length := by have q_ := c26; omega
 have hne : nextE p = 0 := by rw [nextE, if_neg (by simp [hz0]), if_neg (by omega)]
 refine zl<|zcH X X X<|zi X X (r_asF X)<|Y<|W.sr<|zgX X X<|zcH X X X ?_
 refine zg st24 rfl rfl rfl Tryz.call71 rfl (c_vote_first_int st24.sub (lt := worseB (allL p true)) (B := fun x => 0 ≤ x ∧ x < (p.questions.length : Int)) (caps2 := [.pointer (some ⟨b15, 0, none⟩)]) Tryz.call69 (gives_next (p := p) (p_f0.up ((le4.trans le10).trans le21)) (p_f1.up ((le4.trans le10).trans le21)) (p_f2.up ((le4.trans le10).trans le21)) (p_f3.up ((le4.trans le10).trans le21)) (p_f4.up ((le4.trans le10).trans le21)) (hc5.up (le10.trans le21)) (f14.up le21) hc23 hpb hal (by omega)) Tryz.call72 (fun _ _ _ _ q_ => q_) (fun h_ w_ x_ y_ l_ s_ bx_ by_ => c_vote_Next_2 s_ x_ y_ ((f14.up le21).up l_) (hc23.up l_) bx_.1 by_.1 (zgl hpb hal bx_.1 bx_.2) (zgl hpb hal by_.1 by_.2) (by omega))) ?_
 intro r27 w28 h29 le30 st31 q32
 obtain rfl := q32
 refine zt X X<|zt X X<|Y<|zw<|zaY Tryz.results24 ?_
 refine ⟨h29, _, rfl, st31.done, ?_⟩
 refine tup2 (zac ?_) (zac ?_)
 all_goals first | exact hne.symm | (rw [nextR, if_pos hne, hk4]; exact next_ok hl1 (next_pos hl1))
end Go.Pk

namespace Go.Pk
open Go Go.RowKit Go.Proofs
end Go.Pk

namespace Go.Pk
open Go Go.RowKit Go.Proofs
set_option maxHeartbeats 4000000 in
theorem c_vote_Decide {h : Heap} {w : World} (hs : Sub h w) {p : Poll} {p_v0 : Value} (p_f0 : Sl LChapter h p_v0 p.text.chapters) {p_v1 : Value} (p_f1 : Sl LRule h p_v1 p.lexicon.rules) {p_v2 : Value} (p_f2 : Sl LDecision h p_v2 p.lexicon.decisions) {p_v3 : Value} (p_f3 : Sl LQuestion h p_v3 p.questions) {p_v4 : Value} (p_f4 : Sl LVoter h p_v4 p.voters) (K1 : Cells h 1 0 Tryz.glob1) (K0 : Cells h 0 0 Tryz.glob0) : Calls Tryz.prog 27 #[.agg #[p_v0, p_v1, p_v2, p_v3, p_v4]] w (fun e_ w' => ∃ h' v0_ v1_ o0_ o1_, e_ = .returned (.tuple #[.agg #[v0_, v1_], .int .i64 (zfP p)]) ∧ Le h h' ∧ St h w h' w' [o0_, o1_] ∧ OSl LRule 68 h' v0_ (((zeU p)).rules) o0_ ∧ OSl LDecision 74 h' v1_ (((zeU p)).decisions) o1_) := by
 refine zL (n := 101) Tryz.func27 X X X<|have st0:=t_s0 hs;have p_f0_b:=p_f0.le;have p_f1_b:=p_f1.le;have p_f2_b:=p_f2.le;have p_f3_b:=p_f3.le;have p_f4_b:=p_f4.le;W.sr<|zJ st0 (cs := [p_v0, p_v1, p_v2, p_v3, p_v4]) X X X<|fun b1 w2 h3 le4 hc5 st6=>zX st6 Tryz.zeroValue28 X X<|fun b7 w8 st9=>zt X X<|Y<|W.sr<|zz st9.sub hc5 X zbn zaI X X<|zg st9 X X X zhi X (zfg st9.sub (p := p) (p_f0.up le4) (p_f1.up le4) (p_f2.up le4) (p_f3.up le4) (p_f4.up le4) _ (K1.up le4) (K0.up le4))<|fun r10 w11 h12 le13 st14 q15=> ?_
 obtain ⟨v16, rfl, f17⟩ := q15
 have f17_b := f17.le
 refine zcE X X<|zM (v := v16) X X X<|zM (v := (.int _ _)) X X X<|zaa (v := v16) X X<|zt X X<|Y<|zm<|W.sr<|zf X X<|zcA X X X<|Y ?_
 refine zG rfl (fun c18 => ?_) (fun c18 => ?_)
 ·
  refine W.sr<|zi X X (zbv (cs := [(.slice none 0 0), (.slice none 0 0)]) t_kr)<|zf X X<|zN st14 (k := 0) X X X (za X (za X zau)) zaJ X X X<|fun w19 st20=>zt X X<|Y<|zw<|zc<|zcu Tryz.results27 X zca zaJ X (st20.get (k := 0) X) ?_
  have st21 := st20.snoc
  have f22 := OSl.nil LRule 68 h12
  have st23 := st21.snoc
  have f24 := OSl.nil LDecision 74 h12
  have e1 : zeU p = zgj := by rw [zeU, if_neg (by simpa using c18)]
  have e2 : zfP p = allE p true := by rw [zfP, if_neg (by simpa using c18)]
  refine ⟨h12, (.slice none 0 0), (.slice none 0 0), _, _, congrArg Ending.returned (tup2 rfl (zac ?_)), (le4.trans le13), st23.sublist (own' := [[], []]) (.cons _ (.cons_cons _ (.cons_cons _ (.slnil)))), OSl.to f22 ?_, OSl.to f24 ?_⟩
  all_goals first | rfl | exact e2.symm | (rw [e1]; done) | (rw [e1]; rfl) | (rw [e1]; assumption)
 refine zx<|E<|zm ?_
 have hz0 : allE p true = 0 := by simpa using c18
 obtain ⟨hk1, hk2, hk3, hk4⟩ := zhl hz0
 have hk5 := List.length_pos_iff.2 hk3
 have hk6 : (allL p true).length = (zB p).length := by rw [hk4]
 have hk7 := zen (zbY hk1).2
 have hk8 := zck (zbY hk1).2
 have hlx := smallX_len (small_of (zbY hk1).1)
 refine zbt (er := ([], [], [], [9], 3)) (dsts := [24, 25, 26, 27, 28, 29, 30, 31, 32, 6]) st14 Tryz.mixed<|zh 0 [] X t_kr t_kr X X (fun hD wD τD hL hS hO  => (zS X zD X zaJ X))<|zh 1 [0] X t_kr t_kr X X (fun hD wD τD hL hS hO _ _ => (zS X zaD X zdG X))<|zh 2 [0] X t_kr t_kr X X (fun hD wD τD hL hS hO _ _ => (zd (j := 1) (hL.sub hS) (hc5.up le13) X X X zea))<|zcz<|zh 4 [] X t_kr t_kr X X (fun hD wD τD hL hS hO  => (zS X zD X zaJ X))<|zh 5 [0] X t_kr t_kr X X (fun hD wD τD hL hS hO _ _ => (zS X zaD X zcL X))<|zh 6 [0] X t_kr t_kr X X (fun hD wD τD hL hS hO _ _ => (zd (j := 2) (hL.sub hS) (hc5.up le13) X X X zdc))<|zcz<|zcz<|Drw.al Tryz.zeroValue28 X<|zcz<|zcj X X X X X X ⟨t_kr, X, t_kr, X, t_kr, X, X, t_kr, (zbP X (zbP X (zbP X (zbP X zcZ))))⟩<|fun hE26 w27 _ ls32 hl31 le28 st29 _ _=> ?_
 obtain ⟨oL30, rfl⟩ := zhI hl31
 have l33 := (le4.trans le13).trans le28
 refine zaB rfl rfl (zaV rfl Tryz.call76 rfl) ((zdW st29.sub (p_f1.up l33) (by omega)).mono ?_)
 rintro _ w35 ⟨h36, v34, o39, rfl, le37, s41, f40⟩
 refine ⟨_, rfl, ?_⟩
 have st38 := st29.call s41
 refine zr ⟨_, rfl, _, [[(b7, .cells (List.toArray [(.slice none 0 0), (.slice none 0 0)]) 28)]], [o39], le37, st38, ?_⟩
 intro hE43 w44 _ ls49 hl48 le45 st46 _ _
 obtain ⟨oL47, rfl⟩ := zhI hl48
 have l50 := (l33.trans le37).trans le45
 refine zaB rfl rfl (zaV rfl Tryz.call77 rfl) ((zct st46.sub (p_f2.up l50) (by omega)).mono ?_)
 rintro _ w52 ⟨h53, v51, o56, rfl, le54, s58, f57⟩
 refine ⟨_, rfl, ?_⟩
 have st55 := st46.call s58
 refine zr ⟨_, rfl, _, [[(b7, .cells (List.toArray [(.slice none 0 0), (.slice none 0 0)]) 28)]], [o39, o56], le54, st55, ?_⟩
 intro hE60 w61 _ ls66 hl65 le62 st63 
 obtain ⟨oL64, rfl⟩ := zhI hl65
 refine zi rfl rfl (zbv (cs := [v34, v51]) (by obtain ⟨_, _, rfl⟩ := OSl.form f40; obtain ⟨_, _, rfl⟩ := OSl.form f57; kernel_rfl)) ?_
 refine zr ⟨_, rfl, _, [[(b7, .cells (List.toArray [(.slice none 0 0), (.slice none 0 0)]) 28)]], [o39, o56], Le.refl _, st63, ?_⟩
 intro b68
 intro hE69 w70 _ le71 st72 _ _ _ _ _ _ _ _ _ _ _ _
 refine zN st72 (k := 1) X X X (za f40.one (za f57.one zau)) zaJ X X X<|fun w73 st74=> ?_
 refine zr ⟨undef, rfl, _, _, Le.refl _, st74, ?_⟩
 intro hE75 w76 _ le77 st78 _ _ _ _ _ _ _ _ _ _ _ _
 refine AllDeps.fin X<|E<|zm<|W.sr<|zO (v := v16) X X ?_
 have l80 := (((((le28.trans le37).trans le45).trans le54).trans le62).trans le71).trans le77
 refine zg st78 rfl rfl rfl Tryz.call78 rfl (zhK st78.sub (f17.up l80) (by omega) (by intro t_ ht_; rw [hk4] at ht_; exact zdl ht_) (by omega)) ?_
 intro r81 w82 h83 le84 st85 q86
 obtain ⟨v87, e89, f88⟩ := q86
 rw [← e89] at f88
 have f88_b := f88.le
 have f90 := Sl.to f88 (show _ = (zcB (zB p)) from by rw [hk4])
 have f90_b := f90.le
 refine zaC f90 X ze X<|zf X X<|Y<|zH ?_
 have l94 := ((((le45.trans le54).trans le62).trans le71).trans le77).trans le84
 have l95 := ((le62.trans le71).trans le77).trans le84
 refine zao ([3, 5] ++ t_rg 7 6 ++ [14] ++ t_rg 36 64) (G := Nat × Lexicon × Value × Value × List (Nat × Obj) × List (Nat × Obj) × Heap) (fun ⟨k, x, v_c1_0, v_c1_1, o_c1_0, o_c1_1, h91⟩ => [(36, .int .i64 (k : Int))]) (fun ⟨k, x, v_c1_0, v_c1_1, o_c1_0, o_c1_1, h91⟩ w' => Le h83 h91 ∧ St h w h91 w' [[(b7, .cells (List.toArray [(.slice none 0 0), (.slice none 0 0)]) 28)], [(b68, .cells (List.toArray [v_c1_0, v_c1_1]) 28)], o_c1_0, o_c1_1] ∧ (OSl LRule 68 h91 v_c1_0 (x.rules) o_c1_0) ∧ (OSl LDecision 74 h91 v_c1_1 (x.decisions) o_c1_1) ∧ (k ≤ (zcB (zB p)).length) ∧ (decK p (zcB (zB p)) k = (x, 0))) (fun ⟨k, x, v_c1_0, v_c1_1, o_c1_0, o_c1_1, h91⟩ => (zcB (zB p)).length - k) ⟨0, p.lexicon, v34, v51, o39, o56, h83⟩ ⟨rfl, trivial⟩ ⟨Le.refl _, st85, (OSl.to (f40.up l94) (by rfl)), (OSl.to (f57.up l95) (by rfl)), zaP, (by rfl)⟩ ?_
 rintro ⟨k, x, v_c1_0, v_c1_1, o_c1_0, o_c1_1, h91⟩ _ w96 ⟨le92, st93, hO_c1_0, hO_c1_1, hk, hdk⟩
 refine W.sr<|zaO X X X<|Y<|zm ?_
 refine zG rfl (fun c97 => ?_) (fun c97 => ?_)
 ·
  refine zx<|E<|zm<|zH<|W.sr<|zf X X ?_
  obtain ⟨ch, hch⟩ : ∃ y_, ((zcB (zB p)))[k]? = some y_ := t_ge (by omega)
  obtain ⟨b98, o99, _, he101, hc100, hr_ch⟩ := Sl.elem (f90.up le92) hch
  obtain rfl := hr_ch
  refine zT he101 X X (hk := X) (hu := ze) (hz := zn) X<|U (j := 0) st93.sub hc100 X X X zA X<|zt X X<|zt X X<|Y<|zm ?_
  have hk9 : k < p.questions.length := by have q_ := set_len7 hk3; omega
  have hx0 := dec_ok (zbY hk1).1 hdk
  have hxd := ziK hx0
  have hxr := lexicon_12 hx0
  refine zl<|O X zD X zbl X X<|have l102:=((((((((le13.trans le28).trans le37).trans le45).trans le54).trans le62).trans le71).trans le77).trans le84).trans le92;U (j := 3) st93.sub (hc5.up l102) X X X zbx X<|zf X X ?_
  obtain ⟨q, hq⟩ : ∃ y_, (p.questions)[k]? = some y_ := t_ge (by omega)
  have l107 := (((((l50.trans le54).trans le62).trans le71).trans le77).trans le84).trans le92
  obtain ⟨b103, o104, _, he106, hc105, hr_q⟩ := Sl.elem (p_f3.up l107) hq
  obtain ⟨v108, rfl, f109⟩ := hr_q
  have f109_b := f109.le
  refine zT he106 X X (hk := X) (hu := zaq) (hz := zbB) X<|zz st93.sub hc105 X Tryz.isAgg84 zbB X X<|zX st93 Tryz.zeroValue84 X X<|fun b110 w111 st112=>zN st112 (k := 4) X X X (za X (za X (za X (za f109.one zau)))) zbB X X X<|fun w113 st114=> ?_
  obtain ⟨h115, le116, hb117, st119⟩ := st114.freeze (k := 4) rfl
  have hc118 := Cells.of hb117
  refine Y<|zm<|W.sr<|zf X X<|zaO X X X<|Y ?_
  refine zG rfl (fun c120 => ?_) (fun c120 => ?_)
  ·
   refine zaA<|zo<|zak<|E<|zl<|zay X X t_om X<|zf X X<|Y ?_
   refine ⟨⟨k + 1, x, v_c1_0, v_c1_1, o_c1_0, o_c1_1, h115⟩, ⟨rfl, trivial⟩, ?_, ⟨(le92.trans le116), st119.take 4, ?_, ?_, ?_, ?_⟩, ?_⟩
   ·exact zal
   ·refine OSl.to (hO_c1_0.up le116) ?_
    rfl
   ·refine OSl.to (hO_c1_1.up le116) ?_
    rfl
   ·first | omega | (simp; omega)
   ·exact dec_skip hdk hq hch c120
   show (zcB (zB p)).length - ((k + 1)) < (zcB (zB p)).length - k
   omega
  refine zx<|E<|zm<|W.sr<|O X zD X zax X X<|zag (j := 0) st119.sub (hc5.up (l102.trans le116)) (us := [p_v0]) X X zbo zax X X X<|zcI (st119.get (k := 1) X) X zca zaJ X X<|O X zaw X zW X X<|zag (j := 0) st119.sub hc118 (us := [.int .i64 (q.at_.chapter), .int .i64 (q.at_.line), .int .i64 (q.at_.word)]) X X zaL zW X X X ?_
  have ha121 := heapOf_le st119.sub
  have f122 := (OSl.whole (k := 2) st119 (hO_c1_0.up le116) rfl t_om).2
  have f123 := (OSl.whole (k := 3) st119 (hO_c1_1.up le116) rfl t_om).2
  have l124 := (l107.trans le116).trans ha121
  refine zg st119 X X X Tryz.call79 X (Rets.thaw st119.sub (c_stem_HeadOf (zgL _) (t := p.text) (p_f0.up l124) (x := x) f122 f123 (p := q.at_) (K1.up l124)))<|fun r125 w126 h127 le128 st129 q130=> ?_
  obtain rfl := q130
  refine zcE X X<|zM (v := (.agg (List.toArray _))) X X X<|zM (v := (.int _ _)) X X X<|zX st129 zeN X X<|fun b131 w132 st133=>zN st133 (k := 5) X X X (za X (za X zau)) zah X X X<|fun w134 st135=> ?_
  obtain ⟨h136, le137, hb138, st140⟩ := st135.freeze (k := 5) rfl
  have hc139 := Cells.of hb138
  refine zt X X<|Y<|zm ?_
  have hin := set_in hk3 hq hch (by have q_ := c120; omega)
  refine zby Tryz.mixed t_kr (Cls h136 _) (Cls.drew st140)<|zC X X (fun _ hC => (zaz hC.sub hc139 X zbH zah X))<|zR X zaw X zbO X X<|zC X X (fun _ hC => (zd (j := 3) hC.sub (hc118.up (le128.trans le137)) X X X zcg))<|zcr X X ?_
  obtain ⟨hd, hhd⟩ : ∃ y_, (q.heads)[ch.toNat]? = some y_ := t_ge (by omega)
  obtain ⟨b141, o142, _, he144, hc143, hr_hd⟩ := Sl.elem (f109.up ((le116.trans le128).trans le137)) hhd
  obtain ⟨rfl, ls145, lu146⟩ := hr_hd
  simp only [big] at ls145
  refine zC rfl rfl (fun _ _ => (zat he144 rfl rfl (hk := (show _ = ((ch.toNat : Nat) : Int) by omega)) (hu := zaQ) (hz := zah))) ?_
  refine zC X X (fun _ hC => (zaz hC.sub hc143 X zbH zah X))<|zC X X (fun _ _ => (zgS X X Tryz.eqGuardType72 (Tryz.eq_Head (askR (p.text) (x) (q.at_)).to hd)))<|zbe ?_
  rintro w147 ⟨h148, s149⟩
  have st150 := st140.call0 s149
  refine E ?_
  refine zG rfl (fun c151 => ?_) (fun c151 => ?_)
  ·
   refine zaA<|zo<|zak<|E<|zl<|zay X X t_om X<|zf X X<|Y ?_
   have l152 := (((le92.trans le116).trans le128).trans le137).trans s149.le
   refine ⟨⟨k + 1, x, v_c1_0, v_c1_1, o_c1_0, o_c1_1, h148⟩, ⟨rfl, trivial⟩, ?_, ⟨l152, st150.take 4, ?_, ?_, ?_, ?_⟩, ?_⟩
   ·exact zal
   ·refine OSl.to (hO_c1_0.up (((le116.trans le128).trans le137).trans s149.le)) ?_
    rfl
   ·refine OSl.to (hO_c1_1.up (((le116.trans le128).trans le137).trans s149.le)) ?_
    rfl
   ·first | omega | (simp; omega)
   ·exact dec_same hdk hq hch (by omega) hhd c151
   show (zcB (zB p)).length - ((k + 1)) < (zcB (zB p)).length - k
   omega
  refine zx<|E<|zm<|zbt (er := ([], [], [], [], 0)) (dsts := [64, 65, 66, 67, 68, 69, 70, 71, 12]) st150 Tryz.mixed<|zh 0 [] X t_kr t_kr X X (fun hD wD τD hL hS hO  => (zS X zaw X zW X))<|zh 1 [0] X t_kr t_kr X X (fun hD wD τD hL hS hO _ _ => (zde (j := 0) (hL.sub hS) (hc118.up ((le128.trans le137).trans s149.le)) (us := [.int .i64 (q.at_.chapter), .int .i64 (q.at_.line), .int .i64 (q.at_.word)]) X X zaL zW X X))<|zh 2 [] X t_kr t_kr X X (fun hD wD τD hL hS hO  => (zS X zaw X zbO X))<|zh 3 [0] X t_kr t_kr X X (fun hD wD τD hL hS hO _ _ => (zd (j := 3) (hL.sub hS) (hc118.up ((le128.trans le137).trans s149.le)) X X X zcg))<|zh 4 [] X t_kr t_kr X X (fun hD wD τD hL hS hO  => (zha X)) ?_
  refine zh 5 [1, 0] rfl t_kr t_kr rfl rfl (fun hD wD τD hL hS hO _ _ _ _ => (zat he144 rfl rfl (hk := (show _ = ((ch.toNat : Nat) : Int) by omega)) (hu := zaQ) (hz := zah))) ?_
  refine zh 6 [0] X t_kr t_kr X X (fun hD wD τD hL hS hO _ _ => (zaz (hL.sub hS) (hc143.up s149.le) X zbH zah X))<|zh 7 [5, 0] X t_kr t_kr X X (fun hD wD τD hL hS hO _ _ _ _ => (zbv (cs := [.int .i64 1, .int .u8 3, strV [], .int .i64 (q.at_.chapter), .int .i64 (q.at_.line), .int .i64 (q.at_.word), strV (hd.stem), .int .u8 (hd.mark), .int .i64 0]) t_kr))<|Drw.al zbK X<|zcz<|zcj X X X X X X ⟨t_kr, X, t_kr, X, t_kr, X, X, t_kr, (zbP X zcZ)⟩<|fun b153=>fun hE155 w156 _ le157 st158 _ _ _ _ _ _ _ _ _ _ _ _ _ _ _ _=>zN st158 (k := 6) X X X (za X (za X (za X (za X (za X (za X (za X (za X (za X zau))))))))) zY X X X<|fun w159 st160=> ?_
  refine zr ⟨undef, rfl, _, _, Le.refl _, st160, ?_⟩
  intro hE161 w162 _ le163 st164 _ _ _ _ _ _ _ _ _ _ _ _ _ _ _ _
  refine AllDeps.fin X<|E<|zm<|W.sr<|O X zaD X zcL X X<|zbR (st164.get (k := 1) X) X X zdc X<|have l166:=((((le116.trans le128).trans le137).trans s149.le).trans le157).trans le163;zfV (hO_c1_1.up l166) X zaR X<|zf X X<|Y<|zH ?_
  refine zao ([14] ++ t_rg 75 12) (G := Nat × Int × Heap) (fun ⟨j, n, h167⟩ => [(75, .int .i64 (j : Int))]) (fun ⟨j, n, h167⟩ w' => Le hE161 h167 ∧ St h w h167 w' [[(b7, .cells (List.toArray [(.slice none 0 0), (.slice none 0 0)]) 28)], [(b68, .cells (List.toArray [v_c1_0, v_c1_1]) 28)], o_c1_0, o_c1_1, [], [], [(b153, .cells (List.toArray [.int .i64 n, .int .u8 3, strV [], .int .i64 (q.at_.chapter), .int .i64 (q.at_.line), .int .i64 (q.at_.word), strV (hd.stem), .int .u8 (hd.mark), .int .i64 0]) 74)]] ∧ (j ≤ x.decisions.length) ∧ (n = nextN (x.decisions.take j))) (fun ⟨j, n, h167⟩ => x.decisions.length - j) ⟨0, 1, hE161⟩ ⟨rfl, trivial⟩ ⟨Le.refl _, st164, zaP, (by rfl)⟩ ?_
  rintro ⟨j, n, h167⟩ _ w170 ⟨le168, st169, hj, hn⟩
  have hnn := nextN_le (zhG hx0) j
  rw [← hn] at hnn
  refine W.sr<|zaO X X X<|Y<|zm ?_
  refine zG rfl (fun c171 => ?_) (fun c171 => ?_)
  ·
   refine zx<|E<|zm<|zH<|W.sr ?_
   obtain ⟨d, hd⟩ : ∃ y_, (x.decisions)[j]? = some y_ := t_ge (by omega)
   obtain ⟨b172, o173, cur174, _, e177, he175, hr_d, hc176⟩ := OSl.elem (hO_c1_1.up (l166.trans le168)) hd
   subst e177
   obtain ⟨rfl, lu178, ls179, ls180, lu181⟩ := hr_d
   simp only [big] at ls179
   simp only [big] at ls180
   refine zT he175 X X (hk := X) (hu := zaR) (hz := zY) X<|zi X X (r_load_curN (st169.get (k := 3) X) hc176 X zaT zY X)<|zX st169 zbK X X<|fun b182 w183 st184=>zN st184 (k := 7) X X X (za X (za X (za X (za X (za X (za X (za X (za X (za X zau))))))))) zY X X X<|fun w185 st186=> ?_
   obtain ⟨h187, le188, hb189, st191⟩ := st186.freeze (k := 7) rfl
   have hc190 := Cells.of hb189
   refine Y<|zl<|O X zp X zn X X<|zbR (st191.get (k := 6) X) X X zA X<|O X zp X zn X X<|U (j := 0) st191.sub hc190 X X X zA X ?_
   refine zi rfl rfl (zir rfl rfl (by have q_ := (zhG hx0).2 d (List.mem_of_getElem? hd); omega)) ?_
   refine zi X X (r_max X X)<|O X zp X zn X X<|zaM st191 (k := 6) X X X X zn X X X<|fun w192 st193=>zr<|zK<|E<|zl<|zay X X t_om X<|zf X X<|Y ?_
   refine ⟨⟨j + 1, (maxI n ((d.number) + 1)), h187⟩, ⟨rfl, trivial⟩, ?_, ⟨(le168.trans le188), st193.take 7, ?_, ?_⟩, ?_⟩
   ·exact zal
   ·first | omega | (simp; omega)
   ·rw [hn, nextN_snoc hd]
   show x.decisions.length - ((j + 1)) < x.decisions.length - j
   omega
  refine zaA<|zo<|zo<|zak<|E<|zm ?_
  have e9 : n = mostN x.decisions + 1 := hn.trans (nextN_eq (by omega))
  have e8 : decN n q hd = decD x q hd := by rw [e9]; rfl
  refine zl<|O X zD X zax X X<|have l194:=((((((l102.trans le116).trans le128).trans le137).trans s149.le).trans le157).trans le163).trans le168;zag (j := 0) st169.sub (hc5.up l194) (us := [p_v0]) X X zbo zax X X X<|zcI (st169.get (k := 1) X) X zca zaJ X X<|zcI (st169.get (k := 6) X) X zaT zY X X ?_
  have ha195 := heapOf_le st169.sub
  have f196 := (OSl.whole (k := 2) st169 (hO_c1_0.up (l166.trans le168)) rfl t_om).2
  have f197 := (OSl.whole (k := 3) st169 (hO_c1_1.up (l166.trans le168)) rfl t_om).2
  have l198 := (((((((l107.trans le116).trans le128).trans le137).trans s149.le).trans le157).trans le163).trans le168).trans ha195
  refine zaB rfl rfl (zaV rfl Tryz.call80 rfl) ((c_stem_Add (zgL _) (t := p.text) (p_f0.up l198) (x := x) f196 f197 (d := (decN n q hd)) (by first | assumption | decide | omega | (simp [decN, zcm, zdo]; done) | (simp [decN]; omega) | (dsimp only; omega) | (simp; omega)) (by first | assumption | (simp [decN, zcm, zdo, big]; done) | (simp [decN, zcm, zdo, big]; omega) | omega) (by first | assumption | (simp [decN, zcm, zdo, big]; done) | (simp [decN, zcm, zdo, big]; omega) | omega) (by first | assumption | decide | omega | (simp [decN, zcm, zdo]; done) | (simp [decN]; omega) | (dsimp only; omega) | (simp; omega)) (K1.up l198)).mono ?_)
  rintro _ w199 ⟨h200, v204, v207, o205, o208, rfl, le201, s203, f206, f209⟩
  refine ⟨_, rfl, ?_⟩
  have s210 := St.thawO s203 st169.sub
  replace f206 := OSl.heap (fun _ _ _ _ q_ => q_) f206 h167
  replace f209 := OSl.heap (fun _ _ _ _ q_ => q_) f209 h167
  have st202 := st169.call s210
  refine zcE X X<|zM (v := (.agg (List.toArray _))) X X X<|zM (v := (.int _ _)) X X X<|zN st202 (k := 1) X X X (za f206.one (za f209.one zau)) zaJ X X X<|fun w211 st212=>zt X X<|Y<|W.sr<|zf X X<|zcA X X X<|Y ?_
  refine zG rfl (fun c213 => ?_) (fun c213 => ?_)
  ·
   refine W.sr<|zi X X (zbv (cs := [(.slice none 0 0), (.slice none 0 0)]) t_kr)<|zf X X<|zN st212 (k := 0) X X X (za X (za X zau)) zaJ X X X<|fun w214 st215=>zt X X<|Y<|zw<|zI<|zc<|zc<|zI<|zc<|zcu Tryz.results27 X zca zaJ X (st215.get (k := 0) X) ?_
   have st216 := st215.snoc
   have f217 := OSl.nil LRule 68 h167
   have st218 := st216.snoc
   have f219 := OSl.nil LDecision 74 h167
   have ea : ¬ addE p.text x (decD x q hd) = 0 := by have q_ := c213; rw [e8] at q_; exact q_
   have ef := dec_err hdk hq hch (by omega) hhd (by assumption) ea
   have e1 : zeU p = zgj := by rw [zeU, if_pos hz0, ef]
   have e2 : zfP p = addE p.text x (decD x q hd) := by rw [zfP, if_pos hz0, ef]
   rw [← e8] at e2
   refine ⟨h167, (.slice none 0 0), (.slice none 0 0), _, _, congrArg Ending.returned (tup2 rfl (zac ?_)), (((((((l107.trans le116).trans le128).trans le137).trans s149.le).trans le157).trans le163).trans le168), st218.sublist (own' := [[], []]) (.cons _ (.cons _ (.cons _ (.cons _ (.cons _ (.cons _ (.cons _ (.cons _ (.cons _ (.cons_cons _ (.cons_cons _ (.slnil)))))))))))), OSl.to f217 ?_, OSl.to f219 ?_⟩
   all_goals first | rfl | exact e2.symm | (rw [e1]; done) | (rw [e1]; rfl) | (rw [e1]; assumption)
  refine zx<|zK<|E<|zl<|zay X X t_om X<|zf X X<|Y ?_
  have st220 : St h w h167 _ [[(b7, .cells (List.toArray [(.slice none 0 0), (.slice none 0 0)]) 28)], [(b68, .cells (List.toArray [v204, v207]) 28)], o205, o_c1_1, [], [], [(b153, .cells (List.toArray [.int .i64 n, .int .u8 3, strV [], .int .i64 (q.at_.chapter), .int .i64 (q.at_.line), .int .i64 (q.at_.word), strV (hd.stem), .int .u8 (hd.mark), .int .i64 0]) 74)], [], o208] := St.move (k := 2) (j := 7) st212 rfl rfl (by omega)
  have st221 : St h w h167 _ [[(b7, .cells (List.toArray [(.slice none 0 0), (.slice none 0 0)]) 28)], [(b68, .cells (List.toArray [v204, v207]) 28)], o205, o208, [], [], [(b153, .cells (List.toArray [.int .i64 n, .int .u8 3, strV [], .int .i64 (q.at_.chapter), .int .i64 (q.at_.line), .int .i64 (q.at_.word), strV (hd.stem), .int .u8 (hd.mark), .int .i64 0]) 74)], [], []] := St.move (k := 3) (j := 8) st220 rfl rfl (by omega)
  have l222 := ((((((le92.trans le116).trans le128).trans le137).trans s149.le).trans le157).trans le163).trans le168
  refine ⟨⟨k + 1, ((addN (p.text) (x) ((decN n q hd)))), v204, v207, o205, o208, h167⟩, ⟨rfl, trivial⟩, ?_, ⟨l222, st221.take 4, ?_, ?_, ?_, ?_⟩, ?_⟩
  ·exact zal
  ·refine OSl.to f206 ?_
   rfl
  ·refine OSl.to f209 ?_
   rfl
  ·first | omega | (simp; omega)
  ·have ea : addE p.text x (decD x q hd) = 0 := by have q_ := c213; rw [e8] at q_; exact Classical.not_not.1 q_
   rw [e8]
   exact (dec_add hdk hq hch (by omega) hhd (by assumption)).trans (Prod.ext rfl ea)
  show (zcB (zB p)).length - ((k + 1)) < (zcB (zB p)).length - k
  omega
 refine zaA<|zo<|zo<|zak<|E<|W.sr<|zcI (st93.get (k := 1) X) X zca zaJ X X<|zN st93 (k := 0) X X X (za hO_c1_0.one (za hO_c1_1.one zau)) zaJ X X X<|fun w223 st224=>zt X X<|Y<|zw<|zcu Tryz.results27 X zca zaJ X (st224.get (k := 0) X) ?_
 have ek : k = (zcB (zB p)).length := by omega
 have e1 : zeU p = x := by rw [zeU, if_pos hz0, ← ek, hdk]
 have e2 : zfP p = 0 := by rw [zfP, if_pos hz0, ← ek, hdk]
 refine ⟨h91, v_c1_0, v_c1_1, _, _, congrArg Ending.returned (tup2 rfl (zac ?_)), ((((((l50.trans le54).trans le62).trans le71).trans le77).trans le84).trans le92), st224.sublist (own' := [o_c1_0, o_c1_1]) (.cons _ (.cons _ (.cons_cons _ (.cons_cons _ (.slnil))))), OSl.to hO_c1_0 ?_, OSl.to hO_c1_1 ?_⟩
 all_goals first | rfl | exact e2.symm | (rw [e1]; done) | (rw [e1]; rfl) | (rw [e1]; assumption)
end Go.Pk
