/- A PART OF THE PROOF: contracts of functions, each walked once (much of it printed by a program of the author's own). -/
import Derived.Test.YtfpiiheehdedmaaGreatDoorT14
import Derived.Test.YtfpiiheehdedmaaGreatDoorT2
set_option linter.unusedSimpArgs false
set_option linter.unusedVariables false
set_option maxRecDepth 4000
namespace Go.Pk
open Go Go.RowKit Go.Proofs
set_option maxHeartbeats 4000000 in
theorem zjk {h : Heap} {w : World} (hs : Sub h w) {p : Poll} {p_v0 : Value} (p_f0 : Sl LChapter h p_v0 p.text.chapters) {p_v1 : Value} (p_f1 : Sl LRule h p_v1 p.lexicon.rules) {p_v2 : Value} (p_f2 : Sl LDecision h p_v2 p.lexicon.decisions) {p_v3 : Value} (p_f3 : Sl LQuestion h p_v3 p.questions) {p_v4 : Value} (p_f4 : Sl LVoter h p_v4 p.voters) {by__v : Value} {by_ : (List Int)} (by__f : Sl LU32 h by__v by_) (K1 : Cells h 1 0 Tryz.glob1) (K0 : Cells h 0 0 Tryz.glob0) : Calls Tryz.prog 11 #[.agg #[p_v0, p_v1, p_v2, p_v3, p_v4], by__v] w (Rets h w (fun _ _ res_ => res_ = .bool (true))) := by
 refine zP (n := 165) Tryz.func11 X X X<|have st0:=t_s0 hs;have p_f0_b:=p_f0.le;have p_f1_b:=p_f1.le;have p_f2_b:=p_f2.le;have p_f3_b:=p_f3.le;have p_f4_b:=p_f4.le;have by__f_b:=by__f.le;W.sr<|zJ st0 (cs := [p_v0, p_v1, p_v2, p_v3, p_v4]) X X X<|fun b1 w2 h3 le4 hc5 st6=>zF X X<|Y<|W.sr<|ze st6 X X X Tryz.call33 X (zfJ st6.sub (K1.up le4) (K0.up le4))<|fun r7 w8 h9 le10 st11 q12=> ?_
 obtain rfl := q12
 refine zF X X<|Y<|zj<|W.sr<|zr st11.sub (hc5.up le10) X zaE zad X X<|have l13:=le4.trans le10;ze st11 X X X Tryz.call41 X (zdh st11.sub (p := p) (p_f0.up l13) (p_f1.up l13) (p_f2.up l13) (p_f3.up l13) (p_f4.up l13))<|fun r14 w15 h16 le17 st18 q19=> ?_
 obtain rfl := q19
 refine zbl X X<|zS X X ?_
 refine zaw (d := 27) rfl (fun g20 => ?_) (fun g20 => ?_)
 ·
  refine M X X X X X<|M X X X X X<|zT (v := (.bool _)) X X X<|Y ?_
  refine zae rfl (fun c21 => ?_) (fun c21 => ?_)
  ·
   refine W.sr<|zS X X<|zF X X<|Y<|zw<|zd<|zb Tryz.results11 ?_
   refine ⟨h16, _, rfl, st18.done, ?_⟩
   refine zx ?_
   first | rfl | (rcases hor with ⟨h1_, _⟩ | ⟨h1_, _⟩ <;> simp_all; done) | (simp_all; done)
  cases c21
 refine Z X X X<|zS X X<|Z X X X<|zbl X X<|zN (v := (.bool _)) X X X<|Y ?_
 refine zae rfl (fun c22 => ?_) (fun c22 => ?_)
 ·
  cases c22
 refine zy<|O<|zj ?_
 obtain ⟨hsm, hk1⟩ : zdV p = true ∧ zbM p = 0 := by simpa using g20
 have hpb := (zcb hk1).2
 have hpl := zcO hpb
 refine zn<|zr st18.sub (hc5.up (le10.trans le17)) X zaE zad X X ?_
 have l23 := l13.trans le17
 refine zay rfl rfl (zaV rfl Tryz.call47 rfl) ((ziA st18.sub (p := p) (p_f0.up l23) (p_f1.up l23) (p_f2.up l23) (p_f3.up l23) (p_f4.up l23) (Sl.nil _ _) (Sl.nil _ _) (by exact hpb) (by intro k_ h_; cases h_)).mono ?_)
 rintro _ w24 ⟨h25, v29, o30, rfl, le26, s28, f31⟩
 refine ⟨_, rfl, ?_⟩
 have st27 := st18.call s28
 refine zQ st27 zdt X X<|fun b32 w33 st34=>zI st34 (k := 1) X X X (za X (za X (za f31.one zan))) zaT X X X<|fun w35 st36=>Y<|zj<|W.sr<|E X zt X zbe X X<|U (j := 3) st36.sub (hc5.up ((le10.trans le17).trans le26)) X X X zby X<|have l37:=l23.trans le26;zaH (p_f3.up l37) X zaq X<|zh X X<|Y<|zG ?_
 refine zax ([7, 8] ++ t_rg 37 19) (G := Nat × List Int × List (Nat × Obj) × Heap) (fun ⟨i, ys, o_k0, h38⟩ => [(37, .int .i64 (i : Int))]) (fun ⟨i, ys, o_k0, h38⟩ w' => Le h25 h38 ∧ St h w h38 w' [o_k0, [(b32, .cells (List.toArray [.int .i64 (((zbt (p) ([]) ([]))).id), .int .i64 (((zbt (p) ([]) ([]))).wrong), v29]) 79)]] ∧ (OSl LInt 3 h38 v29 (ys) o_k0) ∧ (i ≤ p.questions.length) ∧ (ys.length = p.questions.length)) (fun ⟨i, ys, o_k0, h38⟩ => p.questions.length - i) ⟨0, (zbt p [] []).votes, o30, h25⟩ ⟨rfl, trivial⟩ ⟨Le.refl _, st36, (OSl.to f31 (by rfl)), zaW, (by exact zeI _ _ _)⟩ ?_
 rintro ⟨i, ys, o_k0, h38⟩ _ w41 ⟨le39, st40, hO_k0, hi, hyl⟩
 refine W.sr<|zaX X X X<|Y<|zj ?_
 refine zC rfl (fun c42 => ?_) (fun c42 => ?_)
 ·
  refine zy<|O<|zj<|zG<|W.sr<|zh X X ?_
  obtain ⟨q, hq⟩ : ∃ y_, (p.questions)[i]? = some y_ := t_ge (by omega)
  have l47 := l37.trans le39
  obtain ⟨b43, o44, _, he46, hc45, hr_q⟩ := Sl.elem (p_f3.up l47) hq
  obtain ⟨v48, rfl, f49⟩ := hr_q
  have f49_b := f49.le
  refine zU he46 X X (hk := X) (hu := zaq) (hz := zbR) X<|zr st40.sub hc45 X Tryz.isAgg84 zbR X X<|zQ st40 Tryz.zeroValue84 X X<|fun b50 w51 st52=>zq X X<|zI st52 (k := 2) X X X (za X (za X (za X (za f49.one zan)))) zbR X X X<|fun w53 st54=> ?_
  obtain ⟨h55, le56, hb57, st59⟩ := st54.freeze (k := 2) rfl
  have hc58 := Cells.of hb57
  refine Y ?_
  have hqh := (zgL hpb hq).2.2.1
  obtain ⟨y, hy⟩ : ∃ y_, (ys)[i]? = some y_ := t_ge (by omega)
  obtain ⟨b60, o61, cur62, _, e65, he63, hr_y, hc64⟩ := OSl.elem (hO_k0.up le56) hy
  subst e65
  obtain rfl := hr_y
  refine zbg (er := ([1], [], [], [], 0)) (dsts := [42, 43, 44, 45, 46, 47, 48, 49, 50, 51, 52, 53, 54]) st59 Tryz.mixed<|zc 0 [] X t_kr t_kr X X (fun hD wD τD hL hS hO  => (zB X zaz X zbs X))<|zc 1 [0] X t_kr t_kr X X (fun hD wD τD hL hS hO _ _ => (ziG ((hO X).get (k := 1) X) X X zce))<|zc 2 [] X t_kr t_kr X X (fun hD wD τD hL hS hO  => (zel X))<|zc 3 [] X t_kr t_kr X X (fun hD wD τD hL hS hO  => (zeQ (v := by__v) X))<|zc 4 [] X t_kr t_kr X X (fun hD wD τD hL hS hO  => (zel X)) ?_
  refine zas 5 (.det (.int .i64 ((chooseN (by_) ((i : Int)).toNat)))) [1, 0] rfl t_kr t_kr ?_ ?_
  ·
   intro hD wD τD hL hS hO _ _ _ _
   have st66 := St.start hS
   refine ze st66 rfl rfl rfl Tryz.call42 rfl (c_postillaw07_choose st66.sub (by__f.up ((l47.trans le56).trans hL)) _ (by omega)) ?_
   intro r67 w68 h69 le70 st71 q72
   obtain rfl := q72
   exact zp ⟨_, _, rfl, st71, (), rfl, trivial⟩
  refine zc 6 [] X t_kr t_kr X X (fun hD wD τD hL hS hO  => (zB X zaF X zch X))<|zc 7 [0] X t_kr t_kr X X (fun hD wD τD hL hS hO _ _ => (zf (j := 3) (hL.sub hS) hc58 X X X zcy))<|zc 8 [0] X t_kr t_kr X X (fun hD wD τD hL hS hO _ _ => (zhS (f49.up le56) X zaZ)) ?_
  refine zc 9 [0] rfl t_kr t_kr rfl rfl (fun hD wD τD hL hS hO _ _ => (zhs rfl rfl (by omega))) ?_
  refine zc 10 [4, 0] rfl t_kr t_kr rfl rfl (fun hD wD τD hL hS hO _ _ _ _ => (r_rem rfl rfl (by omega))) ?_
  refine zc 11 [0] rfl t_kr t_kr rfl rfl (fun hD wD τD hL hS hO _ _ => (ziF rfl rfl (by have q_ := tmod_bd (c := chooseN by_ ((i : Int)).toNat) (n := (q.heads.length : Int) + 1) (by omega); omega))) ?_
  refine zc 12 [11, 10, 9, 8, 7, 6, 5, 4, 3, 2, 1, 0] rfl t_kr t_kr rfl rfl (fun hD wD τD hL hS hO _ _ _ _ _ _ _ _ _ _ _ _ _ _ _ _ _ _ _ _ _ _ _ _ => (zav he63 rfl rfl (hk := (show _ = ((i : Nat) : Int) by rfl)) (hu := zg) (hz := zl))) ?_
  refine zbO<|zbP X X X X X X ⟨t_kr, X, t_kr, X, t_kr, X, X, t_kr, (zbp X zcu)⟩<|fun hE74 w75 _ le76 st77 _ _ _ _ _ _ _ _ _ _ _ _ _ _ _ _ _ _ _ _ _ _ _ _ _ _=> ?_
  refine zdS (k := 0) st77 (hO_k0.up (le56.trans le76)) rfl (by omega) he63 rfl rfl (rfl) zl ?_
  intro o78 w79 _ e80 f81 st82
  subst e80
  refine zp ⟨undef, rfl, _, _, Le.refl _, st82, ?_⟩
  intro hE83 w84 _ le85 st86 _ _ _ _ _ _ _ _ _ _ _ _ _ _ _ _ _ _ _ _ _ _ _ _ _ _
  refine AllDeps.fin X<|zO<|O<|zn<|zaM X X t_om X<|zh X X<|Y ?_
  have l88 := ((le39.trans le56).trans le76).trans le85
  refine ⟨⟨i + 1, (ys.set i ((((chooseN (by_) ((i : Int)).toNat)).tmod ((q.heads.length : Int) + 1)) - 1)), o78, hE83⟩, ⟨rfl, trivial⟩, ?_, ⟨l88, st86.take 2, ?_, ?_, ?_⟩, ?_⟩
  ·exact zau
  ·refine OSl.to (f81.up le85) ?_
   rfl
  ·first | omega | (simp; omega)
  ·rw [List.length_set]; exact hyl
  show p.questions.length - ((i + 1)) < p.questions.length - i
  omega
 refine zaI<|zm<|zm<|zam<|O<|zj<|have l89:=((le10.trans le17).trans le26).trans le39;zbg (er := ([], [], [], [4, 5], 2)) (dsts := [56, 57, 58, 59, 9, 10]) st40 Tryz.mixed<|zc 0 [] X t_kr t_kr X X (fun hD wD τD hL hS hO  => (zat (hL.sub hS) (hc5.up l89) X zaE zad X))<|zbO<|zc 2 [] X t_kr t_kr X X (fun hD wD τD hL hS hO  => (zat (hL.sub hS) (hc5.up l89) X zaE zad X))<|zbO<|ziB zdu X<|ziB zdu X<|zbO<|zbO<|zbP X X X X X X ⟨t_kr, X, t_kr, X, t_kr, X, X, t_kr, (zbp X (zbp X (zbp X (zbp X zcu))))⟩<|fun hE91 w92 _ ls98 hl97 le93 st94 _ _=> ?_
 obtain ⟨oL95, oL96, rfl⟩ := len2_iff hl97
 have l99 := (l37.trans le39).trans le93
 refine zay rfl rfl (zaV rfl Tryz.call16 rfl) ((zdO st94.sub (p := p) (p_f0.up l99) (p_f1.up l99) (p_f2.up l99) (p_f3.up l99) (p_f4.up l99) (by exact hsm)).mono ?_)
 rintro _ w100 ⟨h101, v105, v107, v109, v111, v113, o114, rfl, le102, s104, f106, f108, f110, f112, f115⟩
 refine ⟨_, rfl, ?_⟩
 have st103 := st94.call s104
 refine zp ⟨_, rfl, _, [o_k0, [(b32, .cells (List.toArray [.int .i64 (((zbt (p) ([]) ([]))).id), .int .i64 (((zbt (p) ([]) ([]))).wrong), v29]) 79)]], [o114], le102, st103, ?_⟩
 intro hE117 w118 _ ls124 hl123 le119 st120 _ _
 obtain ⟨oL121, oL122, rfl⟩ := len2_iff hl123
 have l125 := (l99.trans le102).trans le119
 refine zay rfl rfl (zaV rfl Tryz.call16 rfl) ((zdO st120.sub (p := p) (p_f0.up l125) (p_f1.up l125) (p_f2.up l125) (p_f3.up l125) (p_f4.up l125) (by exact hsm)).mono ?_)
 rintro _ w126 ⟨h127, v131, v133, v135, v137, v139, o140, rfl, le128, s130, f132, f134, f136, f138, f141⟩
 refine ⟨_, rfl, ?_⟩
 have st129 := st120.call s130
 refine zp ⟨_, rfl, _, [o_k0, [(b32, .cells (List.toArray [.int .i64 (((zbt (p) ([]) ([]))).id), .int .i64 (((zbt (p) ([]) ([]))).wrong), v29]) 79)]], [o114, o140], le128, st129, ?_⟩
 intro b143
 intro b144
 intro hE145 w146 _ le147 st148 _ _
 refine zI st148 (k := 2) X X X (za f106.one (za f108.one (za f110.one (za f112.one (za f115.one zan))))) zad X X X<|fun w149 st150=> ?_
 refine zp ⟨undef, rfl, _, _, Le.refl _, st150, ?_⟩
 intro hE152 w153 _ le154 st155 _ _ _ _
 refine zI st155 (k := 3) X X X (za f132.one (za f134.one (za f136.one (za f138.one (za f141.one zan))))) zad X X X<|fun w156 st157=> ?_
 refine zp ⟨undef, rfl, _, _, Le.refl _, st157, ?_⟩
 intro hE158 w159 _ le160 st161 _ _ _ _
 refine AllDeps.fin X<|O<|W.sr<|E X zt X zaL X X<|zbi (st161.get (k := 2) X) X X zbj X<|zbc (st161.get (k := 1) X) X zdU zaT X X ?_
 have l167 := (((((le93.trans le102).trans le119).trans le128).trans le147).trans le154).trans le160
 obtain ⟨h163, le164, f165, st166⟩ := OSl.freeze (k := 0) st161 (hO_k0.up l167) rfl (by first | omega | (rw [zeI]; omega) | (simp only [List.length_append, List.length_cons, List.length_nil]; omega))
 refine zac (L := LVoter) (xs := [(Voter.mk (zbt p [] []).id (zbt p [] []).wrong ys)]) (cs := [.int .i64 (((zbt (p) ([]) ([]))).id), .int .i64 (((zbt (p) ([]) ([]))).wrong), v29]) st166 (Enc.cons (L := LVoter) (vs := [.int .i64 (((zbt (p) ([]) ([]))).id), .int .i64 (((zbt (p) ([]) ([]))).wrong), v29]) (x := (Voter.mk (zbt p [] []).id (zbt p [] []).wrong ys)) (h := h163) (⟨_, X, f165⟩) Enc.nil) X X X zaa Tryz.info79 X X X t_kr<|fun v168 w169 h172 le173 f170 st171=> ?_
 have l180 := (((((le119.trans le128).trans le147).trans le154).trans le160).trans le164).trans le173
 refine zbB (k := 4) (nb := 40) st171 (f115.up l180) rfl f170 rfl rfl rfl zaa Tryz.info79 rfl rfl rfl (by decide) rfl (by first | omega | (rw [zeI]; omega) | (simp only [List.length_append, List.length_cons, List.length_nil]; omega)) (by first | omega | (rw [zeI]; omega) | (simp only [List.length_append, List.length_cons, List.length_nil]; omega)) ?_
 intro v174 o175 w176 _ e177 f178 st179
 subst e177
 refine E X zt X zaL X X<|zar st179 (k := 2) X X (v := v174) X f178.one zaL X X X<|fun w181 st182=>Y<|W.sr<|E X zt X zbe X X<|have l183:=((((((((l89.trans le93).trans le102).trans le119).trans le128).trans le147).trans le154).trans le160).trans le164).trans le173;U (j := 3) st182.sub (hc5.up l183) X X X zby X<|have l184:=(((((l125.trans le128).trans le147).trans le154).trans le160).trans le164).trans le173;zaH (p_f3.up l184) X zaq X<|E X zaz X zl X X<|zar st182 (k := 1) X X X X zl X X X<|fun w185 st186=>Y<|W.sr<|E X zt X zaL X X<|zbi (st186.get (k := 3) X) X X zbj X<|zbc (st186.get (k := 1) X) X zdU zaT X X<|zac (L := LVoter) (xs := [(Voter.mk (zbt p [] []).id (p.questions.length : Int) ys)]) (cs := [.int .i64 (((zbt (p) ([]) ([]))).id), .int .i64 (p.questions.length : Int), v29]) st186 (Enc.cons (L := LVoter) (vs := [.int .i64 (((zbt (p) ([]) ([]))).id), .int .i64 (p.questions.length : Int), v29]) (x := (Voter.mk (zbt p [] []).id (p.questions.length : Int) ys)) (h := h172) (⟨_, X, (f165.up le173)⟩) Enc.nil) X X X zaa Tryz.info79 X X X t_kr<|fun v187 w188 h191 le192 f189 st190=> ?_
 have l199 := ((((le147.trans le154).trans le160).trans le164).trans le173).trans le192
 refine zbB (k := 5) (nb := 40) st190 (f141.up l199) rfl f189 rfl rfl rfl zaa Tryz.info79 rfl rfl rfl (by decide) rfl (by first | omega | (rw [zeI]; omega) | (simp only [List.length_append, List.length_cons, List.length_nil]; omega)) (by first | omega | (rw [zeI]; omega) | (simp only [List.length_append, List.length_cons, List.length_nil]; omega)) ?_
 intro v193 o194 w195 _ e196 f197 st198
 subst e196
 refine E X zt X zaL X X<|zar st198 (k := 3) X X (v := v193) X f197.one zaL X X X<|fun w200 st201=>Y<|zj<|W.sr<|zbc (st201.get (k := 2) X) X zaE zad X X ?_
 obtain ⟨h202, le203, f204, st205⟩ := OSl.freeze (k := 4) st201 (f178.up le192) rfl (by first | omega | (rw [zeI]; omega) | (simp only [List.length_append, List.length_cons, List.length_nil]; omega))
 refine ze st205 X X X Tryz.call41 X (zdh st205.sub (p := (zcj p (Voter.mk (zbt p [] []).id (zbt p [] []).wrong ys))) (f106.up ((l180.trans le192).trans le203)) (f108.up ((l180.trans le192).trans le203)) (f110.up ((l180.trans le192).trans le203)) (f112.up ((l180.trans le192).trans le203)) f204)<|fun r206 w207 h208 le209 st210 q211=> ?_
 obtain rfl := q211
 refine zbl X X<|zS X X ?_
 refine zaw (d := 79) rfl (fun g212 => ?_) (fun g212 => ?_)
 ·
  refine M X X X X X<|M X X X X X<|M X X X X X<|zT (v := (.bool _)) X X X<|Y ?_
  refine zae rfl (fun c213 => ?_) (fun c213 => ?_)
  ·
   refine W.sr<|zS X X<|zF X X<|Y<|zw<|zd<|zb Tryz.results11 ?_
   refine ⟨h208, _, rfl, st210.done, ?_⟩
   refine zx ?_
   first | rfl | (rcases hor with ⟨h1_, _⟩ | ⟨h1_, _⟩ <;> simp_all; done) | (simp_all; done)
  cases c213
 refine Z X X X<|zbc (st210.get (k := 3) X) X zaE zad X X<|Z X X X ?_
 obtain ⟨h214, le215, f216, st217⟩ := OSl.freeze (k := 5) st210 (f197.up (le203.trans le209)) rfl (by first | omega | (rw [zeI]; omega) | (simp only [List.length_append, List.length_cons, List.length_nil]; omega))
 have l218 := ((l199.trans le203).trans le209).trans le215
 refine ze st217 X X X Tryz.call41 X (zdh st217.sub (p := (zcj p (Voter.mk (zbt p [] []).id (p.questions.length : Int) ys))) (f132.up l218) (f134.up l218) (f136.up l218) (f138.up l218) f216)<|fun r219 w220 h221 le222 st223 q224=> ?_
 obtain rfl := q224
 refine Z X X X<|zbl X X<|zN (v := (.bool _)) X X X<|Y ?_
 refine zae rfl (fun c225 => ?_) (fun c225 => ?_)
 ·
  refine W.sr<|zS X X<|zF X X<|Y<|zw<|zd<|zb Tryz.results11 ?_
  refine ⟨h221, _, rfl, st223.done, ?_⟩
  refine zx ?_
  first | rfl | (rcases hor with ⟨h1_, _⟩ | ⟨h1_, _⟩ <;> simp_all; done) | (simp_all; done)
 refine zy<|O<|zj ?_
 obtain ⟨_, hks⟩ : zdV (zcj p (Voter.mk (zbt p [] []).id (zbt p [] []).wrong ys)) = true ∧ zbM (zcj p (Voter.mk (zbt p [] []).id (zbt p [] []).wrong ys)) = 0 := by simpa using g212
 obtain ⟨_, hkw⟩ : zdV (zcj p (Voter.mk (zbt p [] []).id (p.questions.length : Int) ys)) = true ∧ zbM (zcj p (Voter.mk (zbt p [] []).id (p.questions.length : Int) ys)) = 0 := by simpa using c225
 have htw : zM (zcj p (Voter.mk (zbt p [] []).id (p.questions.length : Int) ys)) = zM p := weak_same rfl
 have hww := weak_all (p := p) (v := (Voter.mk (zbt p [] []).id (p.questions.length : Int) ys)) rfl hk1 hkw
 refine zn<|have l226:=((((l183.trans le192).trans le203).trans le209).trans le215).trans le222;zr st223.sub (hc5.up l226) X zaE zad X X ?_
 have l227 := ((((l184.trans le192).trans le203).trans le209).trans le215).trans le222
 have con := (zeA st223.sub (p := p) (p_f0.up l227) (p_f1.up l227) (p_f2.up l227) (p_f3.up l227) (p_f4.up l227) (K1.up l227) (K0.up l227))
 rw [if_pos hk1, hk1] at con
 refine ze st223 X X X Tryz.call34 X con<|fun r228 w229 h230 le231 st232 q233=> ?_
 obtain rfl := q233
 clear con
 refine zbY X X<|zA (v := (.int _ _)) X X X<|zA (v := (.int _ _)) X X X<|zq X X<|zq X X<|Y<|W.sr<|zbc (st232.get (k := 3) X) X zaE zad X X ?_
 have l234 := l227.trans le231
 have con := (zeA st232.sub (p := (zcj p (Voter.mk (zbt p [] []).id (p.questions.length : Int) ys))) (f132.up ((l218.trans le222).trans le231)) (f134.up ((l218.trans le222).trans le231)) (f136.up ((l218.trans le222).trans le231)) (f138.up ((l218.trans le222).trans le231)) (f216.up (le222.trans le231)) (K1.up l234) (K0.up l234))
 rw [if_pos hkw, hkw, htw] at con
 refine ze st232 X X X Tryz.call34 X con<|fun r235 w236 h237 le238 st239 q240=> ?_
 obtain rfl := q240
 clear con
 refine zbY X X<|zA (v := (.int _ _)) X X X<|zA (v := (.int _ _)) X X X<|zq X X<|zq X X<|Y<|W.sr<|zr st239.sub (hc5.up ((l226.trans le231).trans le238)) X zaE zad X X<|have l241:=l234.trans le238;ze st239 X X X zhk X (zdx st239.sub (p := p) (p_f0.up l241) (p_f1.up l241) (p_f2.up l241) (p_f3.up l241) (p_f4.up l241) (K1.up l241) (K0.up l241))<|fun r242 w243 h244 le245 st246 q247=> ?_
 obtain ⟨v248, rfl, f249⟩ := q247
 have f249_b := f249.le
 refine zbY X X<|zA (v := v248) X X X<|zA (v := (.int _ _)) X X X<|zaf (v := v248) X X<|zq X X<|Y<|W.sr<|zbc (st246.get (k := 3) X) X zaE zad X X ?_
 have l250 := (((l218.trans le222).trans le231).trans le238).trans le245
 have l251 := ((le222.trans le231).trans le238).trans le245
 have l252 := l241.trans le245
 have con := (zdx st246.sub (p := (zcj p (Voter.mk (zbt p [] []).id (p.questions.length : Int) ys))) (f132.up l250) (f134.up l250) (f136.up l250) (f138.up l250) (f216.up l251) (K1.up l252) (K0.up l252))
 rw [hww.1, hww.2] at con
 refine ze st246 X X X zhk X con<|fun r253 w254 h255 le256 st257 q258=> ?_
 obtain ⟨v259, rfl, f260⟩ := q258
 have f260_b := f260.le
 clear con
 refine zbY X X<|zA (v := v259) X X X<|zA (v := (.int _ _)) X X X<|zaf (v := v259) X X<|zq X X<|Y<|zj<|W.sr<|zh X X<|zcf X X X<|zS X X<|Z X X X<|zh X X<|Z X X X<|zcf X X X<|zN (v := (.bool _)) X X X<|zS X X<|Z X X X<|zh X X<|Z X X X<|zh X X<|Z X X X<|zcf X X X<|zN (v := (.bool _)) X X X<|zS X X ?_
 refine zY (d := 116) rfl (fun g261 => ?_) (fun g261 => ?_)
 ·
  exfalso
  have sure_ : (decide ((((zM p).length : Int)) ≠ (((zM p).length : Int)))) = false := by simp
  exact t_of sure_ g261
 refine Z X X X<|zh X X<|Z X X X<|zh X X<|Z X X X<|zcf X X X<|zN (v := (.bool _)) X X X<|zS X X ?_
 refine zY (d := 121) rfl (fun g262 => ?_) (fun g262 => ?_)
 ·
  exfalso
  have sure_ : (decide ((allE (p) true) ≠ (allE p true))) = false := by simp
  exact t_of sure_ g262
 refine Z X X X<|zR (v := v248) X X<|Z X X X<|zR (v := v259) X X<|Z X X X<|ze st257 X X X zhl X (zck st257.sub (f249.up le256) f260)<|fun r263 w264 h265 le266 st267 q268=> ?_
 obtain rfl := q268
 refine Z X X X<|zbl X X<|zN (v := (.bool _)) X X X<|Y ?_
 refine zae rfl (fun c269 => ?_) (fun c269 => ?_)
 ·
  exfalso
  have sure_ : ((!(decide (((zbz (p))) = ((zbz p)))))) = false := by simp
  exact absurd (c269.symm.trans sure_) (by decide)
 refine zy<|O<|W.sr<|zbc (st267.get (k := 2) X) X zaE zad X X<|have l270:=(((((((((l180.trans le192).trans le203).trans le209).trans le215).trans le222).trans le231).trans le238).trans le245).trans le256).trans le266;have l271:=((((((le209.trans le215).trans le222).trans le231).trans le238).trans le245).trans le256).trans le266;have l272:=(l252.trans le256).trans le266;ze st267 X X X zhk X (zdx st267.sub (p := (zcj p (Voter.mk (zbt p [] []).id (zbt p [] []).wrong ys))) (f106.up l270) (f108.up l270) (f110.up l270) (f112.up l270) (f204.up l271) (K1.up l272) (K0.up l272))<|fun r273 w274 h275 le276 st277 q278=> ?_
 obtain ⟨v279, rfl, f280⟩ := q278
 have f280_b := f280.le
 refine zbY X X<|zA (v := v279) X X X<|zA (v := (.int _ _)) X X X<|zaf (v := v279) X X<|zq X X<|Y<|zj<|W.sr<|zh X X<|zcf X X X<|Y ?_
 refine zC rfl (fun c281 => ?_) (fun c281 => ?_)
 ·
  refine zj<|have hor:=allE_or hks;zn<|zS X X<|zS X X<|Z X X X<|zh X X<|Z X X X<|zdd X X X<|zT (v := (.bool _)) X X X<|zF X X<|Y<|zw<|zd<|zb Tryz.results11 ?_
  refine ⟨h275, _, rfl, st277.done, ?_⟩
  refine zx ?_
  first | exact (decide_eq_true (hor.resolve_left fun h_ => c281 h_.1).1).symm | exact decide_eq_true (hor.resolve_left fun h_ => c281 h_.1).1
 refine zy<|O<|zj<|zj ?_
 have hes : allE (zcj p (Voter.mk (zbt p [] []).id (zbt p [] []).wrong ys)) true = 0 := by simpa using c281
 have hls : (zbz (zcj p (Voter.mk (zbt p [] []).id (zbt p [] []).wrong ys))).length = p.questions.length := ziY hes
 refine zn<|E X zaz X zbs X X<|zbi (st277.get (k := 1) X) X X zce X<|have l282:=((((((((((le173.trans le192).trans le203).trans le209).trans le215).trans le222).trans le231).trans le238).trans le245).trans le256).trans le266).trans le276;zaH (f165.up l282) X zg X<|zh X X<|Y<|zG ?_
 refine zax ([4, 21, 22] ++ t_rg 142 22) (G := Nat × Heap) (fun ⟨k, h283⟩ => [(142, .int .i64 (k : Int))]) (fun ⟨k, h283⟩ w' => Le h275 h283 ∧ St h w h283 w' [[], [(b32, .cells (List.toArray [.int .i64 (((zbt (p) ([]) ([]))).id), .int .i64 (p.questions.length : Int), v29]) 79)], [(b143, .cells (List.toArray [v105, v107, v109, v111, v174]) 32)], [(b144, .cells (List.toArray [v131, v133, v135, v137, v193]) 32)], [], []] ∧ (k ≤ ys.length)) (fun ⟨k, h283⟩ => ys.length - k) ⟨0, h275⟩ ⟨rfl, trivial⟩ ⟨Le.refl _, st277, zaW⟩ ?_
 rintro ⟨k, h283⟩ _ w286 ⟨le284, st285, hk⟩
 refine W.sr<|zaX X X X<|Y<|zj ?_
 refine zC rfl (fun c287 => ?_) (fun c287 => ?_)
 ·
  refine zy<|O<|zj<|zG<|W.sr<|zh X X ?_
  obtain ⟨x, hx⟩ : ∃ y_, (ys)[k]? = some y_ := t_ge (by omega)
  obtain ⟨b288, o289, _, he291, hc290, hr_x⟩ := Sl.elem (f165.up (l282.trans le284)) hx
  obtain rfl := hr_x
  refine zU he291 X X (hk := X) (hu := zg) (hz := zl) X<|U (j := 0) st285.sub hc290 X X X zz X<|zq X X<|zq X X<|Y<|W.sr<|zh X X<|zR (v := v279) X X<|zaH (f280.up le284) X zg X<|zhq X X X<|zS X X ?_
  refine zY (d := 151) rfl (fun g292 => ?_) (fun g292 => ?_)
  ·
   exfalso
   have sure_ : (decide ((k : Int) ≥ ((zbz ((zcj p (Voter.mk (zbt p [] []).id (zbt p [] []).wrong ys)))).length : Int))) = false := by exact decide_eq_false (by omega)
   exact t_of sure_ g292
  refine Z X X X<|zh X X<|Z X X X<|zhq X X X<|Z X X X<|zS X X ?_
  refine zY (d := 154) rfl (fun g293 => ?_) (fun g293 => ?_)
  ·
   refine Z X X X<|zR (v := v279) X X<|Z X X X<|zh X X<|Z X X X ?_
   obtain ⟨b, hb⟩ : ∃ y_, ((zbz ((zcj p (Voter.mk (zbt p [] []).id (zbt p [] []).wrong ys)))))[k]? = some y_ := t_ge (by omega)
   obtain ⟨b294, o295, _, he297, hc296, hr_b⟩ := Sl.elem (f280.up le284) hb
   obtain rfl := hr_b
   refine zU he297 X X (hk := X) (hu := zg) (hz := zl) X<|Z X X X<|U (j := 0) st285.sub hc296 X X X zz X<|Z X X X<|zh X X<|Z X X X<|zcf X X X<|Z X X X<|zT (v := (.bool _)) X X X<|zN (v := (.bool _)) X X X<|Y ?_
   refine zC rfl (fun c298 => ?_) (fun c298 => ?_)
   ·
    exfalso
    have sure_ : (decide (b ≠ x)) = false := by exact decide_eq_false (fun q_ => q_ (sure_set (p := p) (v := (Voter.mk (zbt p [] []).id (zbt p [] []).wrong ys)) rfl hes hx (by omega) hb))
    exact t_of sure_ c298
   refine zy<|zO<|O<|zn<|zaM X X t_om X<|zh X X<|Y ?_
   refine ⟨⟨k + 1, h283⟩, ⟨rfl, trivial⟩, ?_, ⟨le284, st285, ?_⟩, ?_⟩
   ·exact zau
   ·first | omega | (simp; omega)
   show ys.length - ((k + 1)) < ys.length - k
   omega
  refine M X X X X X<|M X X X X X<|M X X X X X<|M X X X X X<|M X X X X X<|M X X X X X<|Z X X X<|zN (v := (.bool _)) X X X<|zN (v := (.bool _)) X X X<|Y ?_
  refine zae rfl (fun c299 => ?_) (fun c299 => ?_)
  ·
   cases c299
  refine zy<|zO<|O<|zn<|zaM X X t_om X<|zh X X<|Y ?_
  refine ⟨⟨k + 1, h283⟩, ⟨rfl, trivial⟩, ?_, ⟨le284, st285, ?_⟩, ?_⟩
  ·exact zau
  ·first | omega | (simp; omega)
  show ys.length - ((k + 1)) < ys.length - k
  omega
 refine zaI<|zm<|zm<|zam<|O<|W.sr<|zS X X<|zF X X<|Y<|zw<|zb Tryz.results11 ?_
 refine ⟨h283, _, rfl, st285.done, ?_⟩
 refine zx ?_
 first | rfl | (rcases hor with ⟨h1_, _⟩ | ⟨h1_, _⟩ <;> simp_all; done) | (simp_all; done)
end Go.Pk
