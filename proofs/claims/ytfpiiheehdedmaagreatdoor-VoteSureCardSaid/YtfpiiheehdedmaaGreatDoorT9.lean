/- A PART OF THE PROOF: contracts of functions, each walked once (much of it printed by a program of the author's own). -/
import Derived.Test.YtfpiiheehdedmaaGreatDoorT2
import Derived.Test.YtfpiiheehdedmaaGreatDoorT8
import Derived.Test.YtfpiiheehdedmaaGreatDoorT7
import Derived.Test.YtfpiiheehdedmaaGreatDoorT3
import Derived.Test.YtfpiiheehdedmaaGreatDoorT5
import Derived.Test.YtfpiiheehdedmaaGreatDoorT6
set_option linter.unusedSimpArgs false
set_option linter.unusedVariables false
set_option maxRecDepth 4000
namespace Go.Pk
open Go Go.RowKit Go.Proofs
theorem zia {h0 h : Heap} {w0 w : World} {rest : Own} {l : Nat} {o_b : Nat} {o : Office} {o_v0 : Value} (o_f0 : Sl LRule h o_v0 o.lex.rules) {o_v1 : Value} (o_f1 : Sl LDecision h o_v1 o.lex.decisions) {o_v2 : Value} (o_f2 : Sl LChapter h o_v2 o.text.chapters) {o_v3 : Value} (o_f3 : FML (fun n : Int => .int .i64 n) (fun x : Decision => [.int .i64 x.number, .int .u8 x.kind, strV x.form, .int .i64 x.at_.chapter, .int .i64 x.at_.line, .int .i64 x.at_.word, strV x.to.stem, .int .u8 x.to.mark, .int .i64 x.of_]) LDecision h o.stands o_v3) (o_c : Cells h o_b 0 [o_v0, o_v1, o_v2, o_v3]) {o_bb : Nat} (o_cc : Cells h o_bb 0 [.pointer (some ⟨o_b, 0, none⟩)]) {p_b : Nat} {p : Place} (p_c : Cells h p_b 0 [.int .i64 (p.chapter), .int .i64 (p.line), .int .i64 (p.word)]) {word_b : Nat} {word : Str} (word_le : word.length ≤ 281474976710656) (word_c : Cells h word_b 0 [strV word]) {J Jx : List Decision → Heap → Own → Prop} (hJm : ∀ xs h1 h2 o, J xs h1 o → Le h1 h2 → J xs h2 o) (hJxm : ∀ xs h1 h2 o, Jx xs h1 o → Le h1 h2 → Jx xs h2 o) (hJ0 : J [] h rest) (hY : ∀ (pre : List Decision) (x : Decision) h1 w1 B rest u, Le h h1 → J pre h1 rest → St h0 w0 h1 w1 (B ++ rest) → (∃ vs, u = .agg vs.toArray ∧ LDecision.R h1 vs x) ∧ x ∈ o.stands.map (·.2) → Yields Tryz.prog l #[u] w1 fun v w2 => ∃ h2 rest2, Le h1 h2 ∧ St h0 w0 h2 w2 (B ++ rest2) ∧ ((v = .bool true ∧ J (pre ++ [x]) h2 rest2) ∨ (v = .bool false ∧ Jx (pre ++ [x]) h2 rest2))) (K1 : Cells h 1 0 Tryz.glob1) (hk4 : ∀ q ∈ o.stands, 1 ≤ q.2.kind ∧ q.2.kind ≤ 4) (st0 : St h0 w0 h w rest) : Calls Tryz.prog 226 #[.func (.yield l) #[] #[], .pointer (some ⟨o_bb, 0, none⟩), .pointer (some ⟨p_b, 0, none⟩), .pointer (some ⟨word_b, 0, none⟩)] w (fun e_ w' => ∃ h' rest' v_, e_ = .returned v_ ∧ Le h h' ∧ St h0 w0 h' w' rest' ∧ ((∃ xs, (∃ dn : List (Int × Decision), dn.Perm o.stands ∧ xs = (dn.map (·.2)).filter fun d => zer d p word) ∧ J xs h' rest') ∨ (∃ pre, Jx pre h' rest'))) := by
 refine zP (n := 31) Tryz.func226 X X X<|have o_f0_b:=o_f0.le;have o_f1_b:=o_f1.le;have o_f2_b:=o_f2.le;W.sr<|U (j := 0) st0.sub o_cc X X X Tryz.isAgg183 X<|zi X X (zdw X)<|E X zdI X Tryz.sizeOf233 X X<|U (j := 3) st0.sub o_c X X X Tryz.isAgg233 X<|OpsL.rangeM st0 o_f3.1 X Tryz.underlying233 X<|fun o1 vi2 w3 hI4 st5=> ?_
 have st6 := st5.perm (own' := o1 :: rest) List.perm_append_comm
 refine Y<|zG ?_
 refine zax ([6] ++ t_rg 12 19) (G := List (Int × Decision) × List (Int × Decision) × Own × List (Nat × Obj) × Heap) (fun ⟨dn, rm, rest, o_11, h7⟩ => []) (fun ⟨dn, rm, rest, o_11, h7⟩ w' => Le h h7 ∧ St h0 w0 h7 w' (o_11 :: rest) ∧ (MI (fun n : Int => .int .i64 n) (fun x => .agg ((fun x : Decision => [.int .i64 x.number, .int .u8 x.kind, strV x.form, .int .i64 x.at_.chapter, .int .i64 x.at_.line, .int .i64 x.at_.word, strV x.to.stem, .int .u8 x.to.mark, .int .i64 x.of_]) x).toArray) h7 o_v3 o_11 vi2 rm) ∧ ((dn ++ rm).Perm o.stands) ∧ (J ((dn.map (·.2)).filter fun d => zer d p word) h7 rest)) (fun ⟨dn, rm, rest, o_11, h7⟩ => rm.length) ⟨[], o.stands, rest, o1, h⟩ trivial ⟨Le.refl _, st6, hI4, (by exact List.Perm.refl _), (by exact hJm _ _ _ _ hJ0 (Le.refl _))⟩ ?_
 rintro ⟨dn, rm, rest, o_11, h7⟩ _ w10 ⟨le8, st9, hI_11, hpd, hJ⟩
 refine W.sr ?_
 refine OpsL.nextM (i := 0) st9 hI_11 rfl rfl rfl (fun e11 w12 st13 => ?_) (fun p14 rm15 o16 w21 _ e22 hp19 hI17 hC18 st20 => ?_)
 ·
  refine zA (v := (.bool _)) X X X<|Y<|zj ?_
  refine zae rfl (fun c23 => ?_) (fun c23 => ?_)
  ·
   cases c23
  refine zaI<|zm<|zm<|zam<|Post.end0 Tryz.results226 ?_
  exact ⟨_, _, _, rfl, le8, (st13).tl, .inl ⟨_, ⟨dn, by rw [e11, List.append_nil] at hpd; exact hpd, rfl⟩, hJm _ _ _ _ hJ (Le.refl _)⟩⟩
 subst e22
 refine zA (v := (.bool _)) X X X<|Y<|zj ?_
 refine zae rfl (fun c24 => ?_) (fun c24 => ?_)
 ·
  refine zy<|O<|zG<|zj ?_
  have hpm : p14 ∈ o.stands := hpd.mem_iff.1 (List.mem_append_right _ (hp19.mem_iff.2 (List.mem_cons_self ..)))
  have hpk := hk4 _ hpm
  obtain ⟨_, hp1, hp2, hp3, hp4⟩ := o_f3.2 p14 hpm
  simp only [big] at hp2 hp3
  refine zn<|zi X X (r_entry st20.sub hC18 (st20.ent (k := 0) X) X)<|zA (v := (.agg (List.toArray _))) X X X<|zjp st20 zbT X X X (us := [.int .i64 (p14.2.number), .int .u8 (p14.2.kind), strV (p14.2.form), .int .i64 (p14.2.at_.chapter), .int .i64 (p14.2.at_.line), .int .i64 (p14.2.at_.word), strV (p14.2.to.stem), .int .u8 (p14.2.to.mark), .int .i64 (p14.2.of_)]) (fun _ => X) (za X (za X (za X (za X (za X (za X (za X (za X (za X zan))))))))) zX X<|fun b25 w26 h27 le28 hc29 st30=>Y<|zj ?_
  rcases (show p14.2.kind = 1 ∨ p14.2.kind = 2 ∨ p14.2.kind = 3 ∨ p14.2.kind = 4 by omega) with hk31 | hk31 | hk31 | hk31
  ·
   have l32 := le8.trans le28
   rcases Bool.eq_false_or_eq_true ((decide ((p14.2).form = (word)))) with g33 | g33
   ·
    have g33_r := g33
    have l34 := le8.trans le28
    refine zbg (er := ([], [], [], [], 0)) (dsts := [16, 17, 18, 19, 20, 21, 22, 23, 24, 25, 26, 27, 28, 29, 30]) st30 Tryz.mixed<|zc 0 [] X t_kr t_kr X X (fun hD wD τD hL hS hO  => (zB X zo X zbu X))<|zc 1 [0] X t_kr t_kr X X (fun hD wD τD hL hS hO _ _ => (zf (j := 1) (hL.sub hS) hc29 X X X zbV)) ?_
    refine zc 2 [0] rfl t_kr t_kr rfl rfl (fun hD wD τD hL hS hO _ _ => (zbD rfl rfl (show _ = ((1 : Nat) : Int) by rw [hk31]; rfl) rfl zci zcd)) ?_
    refine zc 3 [0] X t_kr t_kr X X (fun hD wD τD hL hS hO _ _ => (zB X zab X zex X))<|zc 4 [0] X t_kr t_kr X X (fun hD wD τD hL hS hO _ _ => (zf (j := 9) (hL.sub hS) (K1.up l34) X X X zfl))<|zc 5 [] X t_kr t_kr X X (fun hD wD τD hL hS hO  => (zat (hL.sub hS) hc29 X zaY zX X))<|zc 6 [] X t_kr t_kr X X (fun hD wD τD hL hS hO  => (zat (hL.sub hS) (p_c.up l34) X zaQ zW X))<|zc 7 [] X t_kr t_kr X X (fun hD wD τD hL hS hO  => (zf (j := 0) (hL.sub hS) (word_c.up l34) X X X zaD)) ?_
    refine zas 8 (.det (.bool true)) [3, 2, 1, 0] rfl t_kr t_kr ?_ ?_
    ·
     intro hD wD τD hL hS hO _ _ _ _ _ _ _ _
     have st35 := St.start hS
     refine zcQ (fs := []) (cs := []) st35 X X X X Tryz.call269 X (c_stem_kinds_1 st35.sub (d := p14.2) t_u8 zbr zbr t_u8 (p := p) _ zbr)<|fun r36 w37 h38 le39 st40 q41=> ?_
     obtain rfl := q41
     exact zp ⟨_, _, rfl, st40, (), congrArg Value.bool g33_r, trivial⟩
    refine zc 9 [0] X t_kr t_kr X X (fun hD wD τD hL hS hO _ _ => (zeW X))<|zba 10 [0] X t_kr t_kr X X X (fun hD wD τD hL hS hO _ _ => ⟨rfl, (zeQ X)⟩)<|zba 11 [1] X t_kr t_kr X X X (fun hD wD τD hL hS hO _ _ => ⟨rfl, (zat (hL.sub hS) hc29 X zaY zX X)⟩)<|zbO<|zbO<|zbO<|zbP X X X X X X ⟨t_kr, X, t_kr, X, t_kr, X, X, t_kr, (zbp X (zbp X (zbp X zcu)))⟩<|fun hE43 w44 _ le45 st46 _ _ _ _ _ _=>Z X X X ?_
    have hcb : zer p14.2 p word = true := by simp only [zer, hk31]; first | exact g33 | (have q := g33; rw [zhA] at q; exact q)
    have hJc := hJm _ _ _ _ hJ (le28.trans le45)
    have l55 := l34.trans le45
    have hAc : (∃ vs, _ = Value.agg vs.toArray ∧ LDecision.R hE43 vs p14.2) ∧ p14.2 ∈ o.stands.map (·.2) := ⟨⟨_, rfl, LDecision.up (o_f3.2 p14 hpm) l55⟩, List.mem_map_of_mem hpm⟩
    refine zeH rfl rfl rfl rfl rfl (hY _ _ _ _ [o16] rest _ l55 hJc st46 hAc) ?_
    intro yb47 w48 h49 rest50 le51 st52 hj53 hx54
    refine zp ⟨_, rfl, _, _, le51, st52, ?_⟩
    intro hE57 w58 _ le59 st60 _ _
    refine Z X X X<|zbl X X ?_
    refine zp ⟨_, rfl, _, _, Le.refl _, st60, ?_⟩
    intro hE62 w63 _ le64 st65 _ _
    refine zT (v := (.bool _)) X X X ?_
    refine zp ⟨_, rfl, _, _, Le.refl _, st65, ?_⟩
    intro hE66 w67 _ le68 st69 _ _ _ _ _ _ _ _ _ _ _ _ _ _ _ _ _ _ _ _ _ _ _ _
    refine AllDeps.fin X<|O ?_
    refine zae rfl (fun c71 => ?_) (fun c71 => ?_)
    ·
     refine zw<|zK<|zd<|zK<|zgR Tryz.results226 ?_
     exact ⟨_, _, _, rfl, ((((l55.trans le51).trans le59).trans le64).trans le68), (st69).tl, .inr ⟨_, hJxm _ _ _ _ (hx54 (by simpa using c71)) ((le59.trans le64).trans le68)⟩⟩
    refine zy<|zO<|O ?_
    have l72 := (((l55.trans le51).trans le59).trans le64).trans le68
    refine ⟨⟨dn ++ [p14], rm15, rest50, o16, hE66⟩, trivial, ?_, ⟨l72, st69, ?_, ?_, ?_⟩, ?_⟩
    ·exact zau
    ·exact (hI17.up (((((le28.trans le45).trans le51).trans le59).trans le64).trans le68))
    ·exact zgf hpd hp19
    ·rw [List.map_append, List.filter_append]; simp only [List.map_cons, List.map_nil, List.filter_cons, List.filter_nil]
     rw [if_pos hcb]; exact hJm _ _ _ _ (hj53 (by simpa using c71)) ((le59.trans le64).trans le68)
    show ((rm15)).length < rm.length
    have q := hp19.length_eq; simp only [List.length_cons] at q; omega
   have g33_r := g33
   have l73 := le8.trans le28
   refine zbg (er := ([], [], [], [], 0)) (dsts := [16, 17, 18, 19, 20, 21, 22, 23, 24, 25, 26, 27, 28, 29, 30]) st30 Tryz.mixed<|zc 0 [] X t_kr t_kr X X (fun hD wD τD hL hS hO  => (zB X zo X zbu X))<|zc 1 [0] X t_kr t_kr X X (fun hD wD τD hL hS hO _ _ => (zf (j := 1) (hL.sub hS) hc29 X X X zbV)) ?_
   refine zc 2 [0] rfl t_kr t_kr rfl rfl (fun hD wD τD hL hS hO _ _ => (zbD rfl rfl (show _ = ((1 : Nat) : Int) by rw [hk31]; rfl) rfl zci zcd)) ?_
   refine zc 3 [0] X t_kr t_kr X X (fun hD wD τD hL hS hO _ _ => (zB X zab X zex X))<|zc 4 [0] X t_kr t_kr X X (fun hD wD τD hL hS hO _ _ => (zf (j := 9) (hL.sub hS) (K1.up l73) X X X zfl))<|zc 5 [] X t_kr t_kr X X (fun hD wD τD hL hS hO  => (zat (hL.sub hS) hc29 X zaY zX X))<|zc 6 [] X t_kr t_kr X X (fun hD wD τD hL hS hO  => (zat (hL.sub hS) (p_c.up l73) X zaQ zW X))<|zc 7 [] X t_kr t_kr X X (fun hD wD τD hL hS hO  => (zf (j := 0) (hL.sub hS) (word_c.up l73) X X X zaD)) ?_
   refine zas 8 (.det (.bool false)) [3, 2, 1, 0] rfl t_kr t_kr ?_ ?_
   ·
    intro hD wD τD hL hS hO _ _ _ _ _ _ _ _
    have st74 := St.start hS
    refine zcQ (fs := []) (cs := []) st74 X X X X Tryz.call269 X (c_stem_kinds_1 st74.sub (d := p14.2) t_u8 zbr zbr t_u8 (p := p) _ zbr)<|fun r75 w76 h77 le78 st79 q80=> ?_
    obtain rfl := q80
    exact zp ⟨_, _, rfl, st79, (), congrArg Value.bool g33_r, trivial⟩
   refine zc 9 [0] X t_kr t_kr X X (fun hD wD τD hL hS hO _ _ => (zeW X))<|zaN 10 [0] X t_kr t_kr X X X X (fun hD wD τD hL hS hO _ _ => X)<|zaN 11 [1] X t_kr t_kr X X X X (fun hD wD τD hL hS hO _ _ => X)<|zaN 12 [1, 0, 2] X t_kr t_kr X X X X (fun hD wD τD hL hS hO _ _ _ _ _ _ => X)<|zaN 13 [0, 3] X t_kr t_kr X X X X (fun hD wD τD hL hS hO _ _ _ _ => X)<|zc 14 [4, 0] X t_kr t_kr X X (fun hD wD τD hL hS hO _ _ _ _ => (zfR (v := (.bool _)) X X))<|zbP X X X X X X ⟨t_kr, X, t_kr, X, t_kr, X, X, t_kr, zcu⟩<|fun hE81 w82 _ le83 st84 _ _ _ _ _ _ _ _ _ _ _ _ _ _ _ _ _ _ _ _ _ _ _ _ _ _ _ _ _ _=>AllDeps.fin X<|O ?_
   refine zae rfl (fun c86 => ?_) (fun c86 => ?_)
   ·
    cases c86
   refine zy<|zO<|O ?_
   have l87 := l73.trans le83
   refine ⟨⟨dn ++ [p14], rm15, rest, o16, hE81⟩, trivial, ?_, ⟨l87, st84, ?_, ?_, ?_⟩, ?_⟩
   ·exact zau
   ·exact (hI17.up (le28.trans le83))
   ·exact zgf hpd hp19
   ·rw [List.map_append, List.filter_append]; simp only [List.map_cons, List.map_nil, List.filter_cons, List.filter_nil]
    rw [if_neg (by simp only [zer, hk31]; first | (simp; done) | (have q := g33; rw [zhA] at q; simpa using q) | (have q := g33; simpa using q))]; rw [List.append_nil]; exact hJm _ _ _ _ hJ (le28.trans le83)
   show ((rm15)).length < rm.length
   have q := hp19.length_eq; simp only [List.length_cons] at q; omega
  ·
   have l88 := le8.trans le28
   rcases Bool.eq_false_or_eq_true (((decide ((p14.2).form = (word)) && decide (ordI (p14.2).at_ (p) ≤ 0)))) with g89 | g89
   ·
    have g89_r := g89
    have l90 := le8.trans le28
    refine zbg (er := ([], [], [], [], 0)) (dsts := [16, 17, 18, 19, 20, 21, 22, 23, 24, 25, 26, 27, 28, 29, 30]) st30 Tryz.mixed<|zc 0 [] X t_kr t_kr X X (fun hD wD τD hL hS hO  => (zB X zo X zbu X))<|zc 1 [0] X t_kr t_kr X X (fun hD wD τD hL hS hO _ _ => (zf (j := 1) (hL.sub hS) hc29 X X X zbV)) ?_
    refine zc 2 [0] rfl t_kr t_kr rfl rfl (fun hD wD τD hL hS hO _ _ => (zbD rfl rfl (show _ = ((2 : Nat) : Int) by rw [hk31]; rfl) rfl zci zcd)) ?_
    refine zc 3 [0] X t_kr t_kr X X (fun hD wD τD hL hS hO _ _ => (zB X zab X zex X))<|zc 4 [0] X t_kr t_kr X X (fun hD wD τD hL hS hO _ _ => (zf (j := 14) (hL.sub hS) (K1.up l90) X X X zfl))<|zc 5 [] X t_kr t_kr X X (fun hD wD τD hL hS hO  => (zat (hL.sub hS) hc29 X zaY zX X))<|zc 6 [] X t_kr t_kr X X (fun hD wD τD hL hS hO  => (zat (hL.sub hS) (p_c.up l90) X zaQ zW X))<|zc 7 [] X t_kr t_kr X X (fun hD wD τD hL hS hO  => (zf (j := 0) (hL.sub hS) (word_c.up l90) X X X zaD)) ?_
    refine zas 8 (.det (.bool true)) [3, 2, 1, 0] rfl t_kr t_kr ?_ ?_
    ·
     intro hD wD τD hL hS hO _ _ _ _ _ _ _ _
     have st91 := St.start hS
     refine zcQ (fs := []) (cs := []) st91 X X X X Tryz.call270 X (c_stem_kinds_2 st91.sub (d := p14.2) t_u8 zbr zbr t_u8 (p := p) _ zbr)<|fun r92 w93 h94 le95 st96 q97=> ?_
     obtain rfl := q97
     exact zp ⟨_, _, rfl, st96, (), congrArg Value.bool g89_r, trivial⟩
    refine zc 9 [0] X t_kr t_kr X X (fun hD wD τD hL hS hO _ _ => (zeW X))<|zba 10 [0] X t_kr t_kr X X X (fun hD wD τD hL hS hO _ _ => ⟨rfl, (zeQ X)⟩)<|zba 11 [1] X t_kr t_kr X X X (fun hD wD τD hL hS hO _ _ => ⟨rfl, (zat (hL.sub hS) hc29 X zaY zX X)⟩)<|zbO<|zbO<|zbO<|zbP X X X X X X ⟨t_kr, X, t_kr, X, t_kr, X, X, t_kr, (zbp X (zbp X (zbp X zcu)))⟩<|fun hE99 w100 _ le101 st102 _ _ _ _ _ _=>Z X X X ?_
    have hcb : zer p14.2 p word = true := by simp only [zer, hk31]; first | exact g89 | (have q := g89; rw [zhA] at q; exact q)
    have hJc := hJm _ _ _ _ hJ (le28.trans le101)
    have l111 := l90.trans le101
    have hAc : (∃ vs, _ = Value.agg vs.toArray ∧ LDecision.R hE99 vs p14.2) ∧ p14.2 ∈ o.stands.map (·.2) := ⟨⟨_, rfl, LDecision.up (o_f3.2 p14 hpm) l111⟩, List.mem_map_of_mem hpm⟩
    refine zeH rfl rfl rfl rfl rfl (hY _ _ _ _ [o16] rest _ l111 hJc st102 hAc) ?_
    intro yb103 w104 h105 rest106 le107 st108 hj109 hx110
    refine zp ⟨_, rfl, _, _, le107, st108, ?_⟩
    intro hE113 w114 _ le115 st116 _ _
    refine Z X X X<|zbl X X ?_
    refine zp ⟨_, rfl, _, _, Le.refl _, st116, ?_⟩
    intro hE118 w119 _ le120 st121 _ _
    refine zT (v := (.bool _)) X X X ?_
    refine zp ⟨_, rfl, _, _, Le.refl _, st121, ?_⟩
    intro hE122 w123 _ le124 st125 _ _ _ _ _ _ _ _ _ _ _ _ _ _ _ _ _ _ _ _ _ _ _ _
    refine AllDeps.fin X<|O ?_
    refine zae rfl (fun c127 => ?_) (fun c127 => ?_)
    ·
     refine zw<|zK<|zd<|zK<|zgR Tryz.results226 ?_
     exact ⟨_, _, _, rfl, ((((l111.trans le107).trans le115).trans le120).trans le124), (st125).tl, .inr ⟨_, hJxm _ _ _ _ (hx110 (by simpa using c127)) ((le115.trans le120).trans le124)⟩⟩
    refine zy<|zO<|O ?_
    have l128 := (((l111.trans le107).trans le115).trans le120).trans le124
    refine ⟨⟨dn ++ [p14], rm15, rest106, o16, hE122⟩, trivial, ?_, ⟨l128, st125, ?_, ?_, ?_⟩, ?_⟩
    ·exact zau
    ·exact (hI17.up (((((le28.trans le101).trans le107).trans le115).trans le120).trans le124))
    ·exact zgf hpd hp19
    ·rw [List.map_append, List.filter_append]; simp only [List.map_cons, List.map_nil, List.filter_cons, List.filter_nil]
     rw [if_pos hcb]; exact hJm _ _ _ _ (hj109 (by simpa using c127)) ((le115.trans le120).trans le124)
    show ((rm15)).length < rm.length
    have q := hp19.length_eq; simp only [List.length_cons] at q; omega
   have g89_r := g89
   have l129 := le8.trans le28
   refine zbg (er := ([], [], [], [], 0)) (dsts := [16, 17, 18, 19, 20, 21, 22, 23, 24, 25, 26, 27, 28, 29, 30]) st30 Tryz.mixed<|zc 0 [] X t_kr t_kr X X (fun hD wD τD hL hS hO  => (zB X zo X zbu X))<|zc 1 [0] X t_kr t_kr X X (fun hD wD τD hL hS hO _ _ => (zf (j := 1) (hL.sub hS) hc29 X X X zbV)) ?_
   refine zc 2 [0] rfl t_kr t_kr rfl rfl (fun hD wD τD hL hS hO _ _ => (zbD rfl rfl (show _ = ((2 : Nat) : Int) by rw [hk31]; rfl) rfl zci zcd)) ?_
   refine zc 3 [0] X t_kr t_kr X X (fun hD wD τD hL hS hO _ _ => (zB X zab X zex X))<|zc 4 [0] X t_kr t_kr X X (fun hD wD τD hL hS hO _ _ => (zf (j := 14) (hL.sub hS) (K1.up l129) X X X zfl))<|zc 5 [] X t_kr t_kr X X (fun hD wD τD hL hS hO  => (zat (hL.sub hS) hc29 X zaY zX X))<|zc 6 [] X t_kr t_kr X X (fun hD wD τD hL hS hO  => (zat (hL.sub hS) (p_c.up l129) X zaQ zW X))<|zc 7 [] X t_kr t_kr X X (fun hD wD τD hL hS hO  => (zf (j := 0) (hL.sub hS) (word_c.up l129) X X X zaD)) ?_
   refine zas 8 (.det (.bool false)) [3, 2, 1, 0] rfl t_kr t_kr ?_ ?_
   ·
    intro hD wD τD hL hS hO _ _ _ _ _ _ _ _
    have st130 := St.start hS
    refine zcQ (fs := []) (cs := []) st130 X X X X Tryz.call270 X (c_stem_kinds_2 st130.sub (d := p14.2) t_u8 zbr zbr t_u8 (p := p) _ zbr)<|fun r131 w132 h133 le134 st135 q136=> ?_
    obtain rfl := q136
    exact zp ⟨_, _, rfl, st135, (), congrArg Value.bool g89_r, trivial⟩
   refine zc 9 [0] X t_kr t_kr X X (fun hD wD τD hL hS hO _ _ => (zeW X))<|zaN 10 [0] X t_kr t_kr X X X X (fun hD wD τD hL hS hO _ _ => X)<|zaN 11 [1] X t_kr t_kr X X X X (fun hD wD τD hL hS hO _ _ => X)<|zaN 12 [1, 0, 2] X t_kr t_kr X X X X (fun hD wD τD hL hS hO _ _ _ _ _ _ => X)<|zaN 13 [0, 3] X t_kr t_kr X X X X (fun hD wD τD hL hS hO _ _ _ _ => X)<|zc 14 [4, 0] X t_kr t_kr X X (fun hD wD τD hL hS hO _ _ _ _ => (zfR (v := (.bool _)) X X))<|zbP X X X X X X ⟨t_kr, X, t_kr, X, t_kr, X, X, t_kr, zcu⟩<|fun hE137 w138 _ le139 st140 _ _ _ _ _ _ _ _ _ _ _ _ _ _ _ _ _ _ _ _ _ _ _ _ _ _ _ _ _ _=>AllDeps.fin X<|O ?_
   refine zae rfl (fun c142 => ?_) (fun c142 => ?_)
   ·
    cases c142
   refine zy<|zO<|O ?_
   have l143 := l129.trans le139
   refine ⟨⟨dn ++ [p14], rm15, rest, o16, hE137⟩, trivial, ?_, ⟨l143, st140, ?_, ?_, ?_⟩, ?_⟩
   ·exact zau
   ·exact (hI17.up (le28.trans le139))
   ·exact zgf hpd hp19
   ·rw [List.map_append, List.filter_append]; simp only [List.map_cons, List.map_nil, List.filter_cons, List.filter_nil]
    rw [if_neg (by simp only [zer, hk31]; first | (simp; done) | (have q := g89; rw [zhA] at q; simpa using q) | (have q := g89; simpa using q))]; rw [List.append_nil]; exact hJm _ _ _ _ hJ (le28.trans le139)
   show ((rm15)).length < rm.length
   have q := hp19.length_eq; simp only [List.length_cons] at q; omega
  ·
   have l144 := le8.trans le28
   rcases Bool.eq_false_or_eq_true ((decide ((p14.2).at_ = (p)))) with g145 | g145
   ·
    have g145_r := g145
    have l146 := le8.trans le28
    refine zbg (er := ([], [], [], [], 0)) (dsts := [16, 17, 18, 19, 20, 21, 22, 23, 24, 25, 26, 27, 28, 29, 30]) st30 Tryz.mixed<|zc 0 [] X t_kr t_kr X X (fun hD wD τD hL hS hO  => (zB X zo X zbu X))<|zc 1 [0] X t_kr t_kr X X (fun hD wD τD hL hS hO _ _ => (zf (j := 1) (hL.sub hS) hc29 X X X zbV)) ?_
    refine zc 2 [0] rfl t_kr t_kr rfl rfl (fun hD wD τD hL hS hO _ _ => (zbD rfl rfl (show _ = ((3 : Nat) : Int) by rw [hk31]; rfl) rfl zci zcd)) ?_
    refine zc 3 [0] X t_kr t_kr X X (fun hD wD τD hL hS hO _ _ => (zB X zab X zex X))<|zc 4 [0] X t_kr t_kr X X (fun hD wD τD hL hS hO _ _ => (zf (j := 19) (hL.sub hS) (K1.up l146) X X X zfl))<|zc 5 [] X t_kr t_kr X X (fun hD wD τD hL hS hO  => (zat (hL.sub hS) hc29 X zaY zX X))<|zc 6 [] X t_kr t_kr X X (fun hD wD τD hL hS hO  => (zat (hL.sub hS) (p_c.up l146) X zaQ zW X))<|zc 7 [] X t_kr t_kr X X (fun hD wD τD hL hS hO  => (zf (j := 0) (hL.sub hS) (word_c.up l146) X X X zaD)) ?_
    refine zas 8 (.det (.bool true)) [3, 2, 1, 0] rfl t_kr t_kr ?_ ?_
    ·
     intro hD wD τD hL hS hO _ _ _ _ _ _ _ _
     have st147 := St.start hS
     refine zcQ (fs := []) (cs := []) st147 X X X X Tryz.call271 X (c_stem_kinds_3 st147.sub (d := p14.2) t_u8 zbr zbr t_u8 (p := p) _ zbr)<|fun r148 w149 h150 le151 st152 q153=> ?_
     obtain rfl := q153
     exact zp ⟨_, _, rfl, st152, (), congrArg Value.bool g145_r, trivial⟩
    refine zc 9 [0] X t_kr t_kr X X (fun hD wD τD hL hS hO _ _ => (zeW X))<|zba 10 [0] X t_kr t_kr X X X (fun hD wD τD hL hS hO _ _ => ⟨rfl, (zeQ X)⟩)<|zba 11 [1] X t_kr t_kr X X X (fun hD wD τD hL hS hO _ _ => ⟨rfl, (zat (hL.sub hS) hc29 X zaY zX X)⟩)<|zbO<|zbO<|zbO<|zbP X X X X X X ⟨t_kr, X, t_kr, X, t_kr, X, X, t_kr, (zbp X (zbp X (zbp X zcu)))⟩<|fun hE155 w156 _ le157 st158 _ _ _ _ _ _=>Z X X X ?_
    have hcb : zer p14.2 p word = true := by simp only [zer, hk31]; first | exact g145 | (have q := g145; rw [zhA] at q; exact q)
    have hJc := hJm _ _ _ _ hJ (le28.trans le157)
    have l167 := l146.trans le157
    have hAc : (∃ vs, _ = Value.agg vs.toArray ∧ LDecision.R hE155 vs p14.2) ∧ p14.2 ∈ o.stands.map (·.2) := ⟨⟨_, rfl, LDecision.up (o_f3.2 p14 hpm) l167⟩, List.mem_map_of_mem hpm⟩
    refine zeH rfl rfl rfl rfl rfl (hY _ _ _ _ [o16] rest _ l167 hJc st158 hAc) ?_
    intro yb159 w160 h161 rest162 le163 st164 hj165 hx166
    refine zp ⟨_, rfl, _, _, le163, st164, ?_⟩
    intro hE169 w170 _ le171 st172 _ _
    refine Z X X X<|zbl X X ?_
    refine zp ⟨_, rfl, _, _, Le.refl _, st172, ?_⟩
    intro hE174 w175 _ le176 st177 _ _
    refine zT (v := (.bool _)) X X X ?_
    refine zp ⟨_, rfl, _, _, Le.refl _, st177, ?_⟩
    intro hE178 w179 _ le180 st181 _ _ _ _ _ _ _ _ _ _ _ _ _ _ _ _ _ _ _ _ _ _ _ _
    refine AllDeps.fin X<|O ?_
    refine zae rfl (fun c183 => ?_) (fun c183 => ?_)
    ·
     refine zw<|zK<|zd<|zK<|zgR Tryz.results226 ?_
     exact ⟨_, _, _, rfl, ((((l167.trans le163).trans le171).trans le176).trans le180), (st181).tl, .inr ⟨_, hJxm _ _ _ _ (hx166 (by simpa using c183)) ((le171.trans le176).trans le180)⟩⟩
    refine zy<|zO<|O ?_
    have l184 := (((l167.trans le163).trans le171).trans le176).trans le180
    refine ⟨⟨dn ++ [p14], rm15, rest162, o16, hE178⟩, trivial, ?_, ⟨l184, st181, ?_, ?_, ?_⟩, ?_⟩
    ·exact zau
    ·exact (hI17.up (((((le28.trans le157).trans le163).trans le171).trans le176).trans le180))
    ·exact zgf hpd hp19
    ·rw [List.map_append, List.filter_append]; simp only [List.map_cons, List.map_nil, List.filter_cons, List.filter_nil]
     rw [if_pos hcb]; exact hJm _ _ _ _ (hj165 (by simpa using c183)) ((le171.trans le176).trans le180)
    show ((rm15)).length < rm.length
    have q := hp19.length_eq; simp only [List.length_cons] at q; omega
   have g145_r := g145
   have l185 := le8.trans le28
   refine zbg (er := ([], [], [], [], 0)) (dsts := [16, 17, 18, 19, 20, 21, 22, 23, 24, 25, 26, 27, 28, 29, 30]) st30 Tryz.mixed<|zc 0 [] X t_kr t_kr X X (fun hD wD τD hL hS hO  => (zB X zo X zbu X))<|zc 1 [0] X t_kr t_kr X X (fun hD wD τD hL hS hO _ _ => (zf (j := 1) (hL.sub hS) hc29 X X X zbV)) ?_
   refine zc 2 [0] rfl t_kr t_kr rfl rfl (fun hD wD τD hL hS hO _ _ => (zbD rfl rfl (show _ = ((3 : Nat) : Int) by rw [hk31]; rfl) rfl zci zcd)) ?_
   refine zc 3 [0] X t_kr t_kr X X (fun hD wD τD hL hS hO _ _ => (zB X zab X zex X))<|zc 4 [0] X t_kr t_kr X X (fun hD wD τD hL hS hO _ _ => (zf (j := 19) (hL.sub hS) (K1.up l185) X X X zfl))<|zc 5 [] X t_kr t_kr X X (fun hD wD τD hL hS hO  => (zat (hL.sub hS) hc29 X zaY zX X))<|zc 6 [] X t_kr t_kr X X (fun hD wD τD hL hS hO  => (zat (hL.sub hS) (p_c.up l185) X zaQ zW X))<|zc 7 [] X t_kr t_kr X X (fun hD wD τD hL hS hO  => (zf (j := 0) (hL.sub hS) (word_c.up l185) X X X zaD)) ?_
   refine zas 8 (.det (.bool false)) [3, 2, 1, 0] rfl t_kr t_kr ?_ ?_
   ·
    intro hD wD τD hL hS hO _ _ _ _ _ _ _ _
    have st186 := St.start hS
    refine zcQ (fs := []) (cs := []) st186 X X X X Tryz.call271 X (c_stem_kinds_3 st186.sub (d := p14.2) t_u8 zbr zbr t_u8 (p := p) _ zbr)<|fun r187 w188 h189 le190 st191 q192=> ?_
    obtain rfl := q192
    exact zp ⟨_, _, rfl, st191, (), congrArg Value.bool g145_r, trivial⟩
   refine zc 9 [0] X t_kr t_kr X X (fun hD wD τD hL hS hO _ _ => (zeW X))<|zaN 10 [0] X t_kr t_kr X X X X (fun hD wD τD hL hS hO _ _ => X)<|zaN 11 [1] X t_kr t_kr X X X X (fun hD wD τD hL hS hO _ _ => X)<|zaN 12 [1, 0, 2] X t_kr t_kr X X X X (fun hD wD τD hL hS hO _ _ _ _ _ _ => X)<|zaN 13 [0, 3] X t_kr t_kr X X X X (fun hD wD τD hL hS hO _ _ _ _ => X)<|zc 14 [4, 0] X t_kr t_kr X X (fun hD wD τD hL hS hO _ _ _ _ => (zfR (v := (.bool _)) X X))<|zbP X X X X X X ⟨t_kr, X, t_kr, X, t_kr, X, X, t_kr, zcu⟩<|fun hE193 w194 _ le195 st196 _ _ _ _ _ _ _ _ _ _ _ _ _ _ _ _ _ _ _ _ _ _ _ _ _ _ _ _ _ _=>AllDeps.fin X<|O ?_
   refine zae rfl (fun c198 => ?_) (fun c198 => ?_)
   ·
    cases c198
   refine zy<|zO<|O ?_
   have l199 := l185.trans le195
   refine ⟨⟨dn ++ [p14], rm15, rest, o16, hE193⟩, trivial, ?_, ⟨l199, st196, ?_, ?_, ?_⟩, ?_⟩
   ·exact zau
   ·exact (hI17.up (le28.trans le195))
   ·exact zgf hpd hp19
   ·rw [List.map_append, List.filter_append]; simp only [List.map_cons, List.map_nil, List.filter_cons, List.filter_nil]
    rw [if_neg (by simp only [zer, hk31]; first | (simp; done) | (have q := g145; rw [zhA] at q; simpa using q) | (have q := g145; simpa using q))]; rw [List.append_nil]; exact hJm _ _ _ _ hJ (le28.trans le195)
   show ((rm15)).length < rm.length
   have q := hp19.length_eq; simp only [List.length_cons] at q; omega
  have l200 := le8.trans le28
  rcases Bool.eq_false_or_eq_true ((false)) with g201 | g201
  ·
   have g201_r := g201
   have l202 := le8.trans le28
   refine zbg (er := ([], [], [], [], 0)) (dsts := [16, 17, 18, 19, 20, 21, 22, 23, 24, 25, 26, 27, 28, 29, 30]) st30 Tryz.mixed<|zc 0 [] X t_kr t_kr X X (fun hD wD τD hL hS hO  => (zB X zo X zbu X))<|zc 1 [0] X t_kr t_kr X X (fun hD wD τD hL hS hO _ _ => (zf (j := 1) (hL.sub hS) hc29 X X X zbV)) ?_
   refine zc 2 [0] rfl t_kr t_kr rfl rfl (fun hD wD τD hL hS hO _ _ => (zbD rfl rfl (show _ = ((4 : Nat) : Int) by rw [hk31]; rfl) rfl zci zcd)) ?_
   refine zc 3 [0] X t_kr t_kr X X (fun hD wD τD hL hS hO _ _ => (zB X zab X zex X))<|zc 4 [0] X t_kr t_kr X X (fun hD wD τD hL hS hO _ _ => (zf (j := 24) (hL.sub hS) (K1.up l202) X X X zfl))<|zc 5 [] X t_kr t_kr X X (fun hD wD τD hL hS hO  => (zat (hL.sub hS) hc29 X zaY zX X))<|zc 6 [] X t_kr t_kr X X (fun hD wD τD hL hS hO  => (zat (hL.sub hS) (p_c.up l202) X zaQ zW X))<|zc 7 [] X t_kr t_kr X X (fun hD wD τD hL hS hO  => (zf (j := 0) (hL.sub hS) (word_c.up l202) X X X zaD)) ?_
   refine zas 8 (.det (.bool true)) [3, 2, 1, 0] rfl t_kr t_kr ?_ ?_
   ·
    intro hD wD τD hL hS hO _ _ _ _ _ _ _ _
    have st203 := St.start hS
    refine zcQ (fs := []) (cs := []) st203 X X X X Tryz.call272 X (c_stem_kinds_4 st203.sub (d := p14.2) t_u8 zbr zbr t_u8 (p := p) _ zbr)<|fun r204 w205 h206 le207 st208 q209=> ?_
    obtain rfl := q209
    exact zp ⟨_, _, rfl, st208, (), congrArg Value.bool g201_r, trivial⟩
   refine zc 9 [0] X t_kr t_kr X X (fun hD wD τD hL hS hO _ _ => (zeW X))<|zba 10 [0] X t_kr t_kr X X X (fun hD wD τD hL hS hO _ _ => ⟨rfl, (zeQ X)⟩)<|zba 11 [1] X t_kr t_kr X X X (fun hD wD τD hL hS hO _ _ => ⟨rfl, (zat (hL.sub hS) hc29 X zaY zX X)⟩)<|zbO<|zbO<|zbO<|zbP X X X X X X ⟨t_kr, X, t_kr, X, t_kr, X, X, t_kr, (zbp X (zbp X (zbp X zcu)))⟩<|fun hE211 w212 _ le213 st214 _ _ _ _ _ _=>Z X X X ?_
   have hcb : zer p14.2 p word = true := by simp only [zer, hk31]; first | exact g201 | (have q := g201; rw [zhA] at q; exact q)
   have hJc := hJm _ _ _ _ hJ (le28.trans le213)
   have l223 := l202.trans le213
   have hAc : (∃ vs, _ = Value.agg vs.toArray ∧ LDecision.R hE211 vs p14.2) ∧ p14.2 ∈ o.stands.map (·.2) := ⟨⟨_, rfl, LDecision.up (o_f3.2 p14 hpm) l223⟩, List.mem_map_of_mem hpm⟩
   refine zeH rfl rfl rfl rfl rfl (hY _ _ _ _ [o16] rest _ l223 hJc st214 hAc) ?_
   intro yb215 w216 h217 rest218 le219 st220 hj221 hx222
   refine zp ⟨_, rfl, _, _, le219, st220, ?_⟩
   intro hE225 w226 _ le227 st228 _ _
   refine Z X X X<|zbl X X ?_
   refine zp ⟨_, rfl, _, _, Le.refl _, st228, ?_⟩
   intro hE230 w231 _ le232 st233 _ _
   refine zT (v := (.bool _)) X X X ?_
   refine zp ⟨_, rfl, _, _, Le.refl _, st233, ?_⟩
   intro hE234 w235 _ le236 st237 _ _ _ _ _ _ _ _ _ _ _ _ _ _ _ _ _ _ _ _ _ _ _ _
   refine AllDeps.fin X<|O ?_
   refine zae rfl (fun c239 => ?_) (fun c239 => ?_)
   ·
    refine zw<|zK<|zd<|zK<|zgR Tryz.results226 ?_
    exact ⟨_, _, _, rfl, ((((l223.trans le219).trans le227).trans le232).trans le236), (st237).tl, .inr ⟨_, hJxm _ _ _ _ (hx222 (by simpa using c239)) ((le227.trans le232).trans le236)⟩⟩
   refine zy<|zO<|O ?_
   have l240 := (((l223.trans le219).trans le227).trans le232).trans le236
   refine ⟨⟨dn ++ [p14], rm15, rest218, o16, hE234⟩, trivial, ?_, ⟨l240, st237, ?_, ?_, ?_⟩, ?_⟩
   ·exact zau
   ·exact (hI17.up (((((le28.trans le213).trans le219).trans le227).trans le232).trans le236))
   ·exact zgf hpd hp19
   ·rw [List.map_append, List.filter_append]; simp only [List.map_cons, List.map_nil, List.filter_cons, List.filter_nil]
    rw [if_pos hcb]; exact hJm _ _ _ _ (hj221 (by simpa using c239)) ((le227.trans le232).trans le236)
   show ((rm15)).length < rm.length
   have q := hp19.length_eq; simp only [List.length_cons] at q; omega
  have g201_r := g201
  have l241 := le8.trans le28
  refine zbg (er := ([], [], [], [], 0)) (dsts := [16, 17, 18, 19, 20, 21, 22, 23, 24, 25, 26, 27, 28, 29, 30]) st30 Tryz.mixed<|zc 0 [] X t_kr t_kr X X (fun hD wD τD hL hS hO  => (zB X zo X zbu X))<|zc 1 [0] X t_kr t_kr X X (fun hD wD τD hL hS hO _ _ => (zf (j := 1) (hL.sub hS) hc29 X X X zbV)) ?_
  refine zc 2 [0] rfl t_kr t_kr rfl rfl (fun hD wD τD hL hS hO _ _ => (zbD rfl rfl (show _ = ((4 : Nat) : Int) by rw [hk31]; rfl) rfl zci zcd)) ?_
  refine zc 3 [0] X t_kr t_kr X X (fun hD wD τD hL hS hO _ _ => (zB X zab X zex X))<|zc 4 [0] X t_kr t_kr X X (fun hD wD τD hL hS hO _ _ => (zf (j := 24) (hL.sub hS) (K1.up l241) X X X zfl))<|zc 5 [] X t_kr t_kr X X (fun hD wD τD hL hS hO  => (zat (hL.sub hS) hc29 X zaY zX X))<|zc 6 [] X t_kr t_kr X X (fun hD wD τD hL hS hO  => (zat (hL.sub hS) (p_c.up l241) X zaQ zW X))<|zc 7 [] X t_kr t_kr X X (fun hD wD τD hL hS hO  => (zf (j := 0) (hL.sub hS) (word_c.up l241) X X X zaD)) ?_
  refine zas 8 (.det (.bool false)) [3, 2, 1, 0] rfl t_kr t_kr ?_ ?_
  ·
   intro hD wD τD hL hS hO _ _ _ _ _ _ _ _
   have st242 := St.start hS
   refine zcQ (fs := []) (cs := []) st242 X X X X Tryz.call272 X (c_stem_kinds_4 st242.sub (d := p14.2) t_u8 zbr zbr t_u8 (p := p) _ zbr)<|fun r243 w244 h245 le246 st247 q248=> ?_
   obtain rfl := q248
   exact zp ⟨_, _, rfl, st247, (), congrArg Value.bool g201_r, trivial⟩
  refine zc 9 [0] X t_kr t_kr X X (fun hD wD τD hL hS hO _ _ => (zeW X))<|zaN 10 [0] X t_kr t_kr X X X X (fun hD wD τD hL hS hO _ _ => X)<|zaN 11 [1] X t_kr t_kr X X X X (fun hD wD τD hL hS hO _ _ => X)<|zaN 12 [1, 0, 2] X t_kr t_kr X X X X (fun hD wD τD hL hS hO _ _ _ _ _ _ => X)<|zaN 13 [0, 3] X t_kr t_kr X X X X (fun hD wD τD hL hS hO _ _ _ _ => X)<|zc 14 [4, 0] X t_kr t_kr X X (fun hD wD τD hL hS hO _ _ _ _ => (zfR (v := (.bool _)) X X))<|zbP X X X X X X ⟨t_kr, X, t_kr, X, t_kr, X, X, t_kr, zcu⟩<|fun hE249 w250 _ le251 st252 _ _ _ _ _ _ _ _ _ _ _ _ _ _ _ _ _ _ _ _ _ _ _ _ _ _ _ _ _ _=>AllDeps.fin X<|O ?_
  refine zae rfl (fun c254 => ?_) (fun c254 => ?_)
  ·
   cases c254
  refine zy<|zO<|O ?_
  have l255 := l241.trans le251
  refine ⟨⟨dn ++ [p14], rm15, rest, o16, hE249⟩, trivial, ?_, ⟨l255, st252, ?_, ?_, ?_⟩, ?_⟩
  ·exact zau
  ·exact (hI17.up (le28.trans le251))
  ·exact zgf hpd hp19
  ·rw [List.map_append, List.filter_append]; simp only [List.map_cons, List.map_nil, List.filter_cons, List.filter_nil]
   rw [if_neg (by simp only [zer, hk31]; first | (simp; done) | (have q := g201; rw [zhA] at q; simpa using q) | (have q := g201; simpa using q))]; rw [List.append_nil]; exact hJm _ _ _ _ hJ (le28.trans le251)
  show ((rm15)).length < rm.length
  have q := hp19.length_eq; simp only [List.length_cons] at q; omega
 cases c24
end Go.Pk

namespace Go.Pk
open Go Go.RowKit Go.Proofs
theorem ziz {h : Heap} {w : World} (hs : Sub h w) {o_b : Nat} {o : Office} {o_v0 : Value} (o_f0 : Sl LRule h o_v0 o.lex.rules) {o_v1 : Value} (o_f1 : Sl LDecision h o_v1 o.lex.decisions) {o_v2 : Value} (o_f2 : Sl LChapter h o_v2 o.text.chapters) {o_v3 : Value} (o_f3 : FML (fun n : Int => .int .i64 n) (fun x : Decision => [.int .i64 x.number, .int .u8 x.kind, strV x.form, .int .i64 x.at_.chapter, .int .i64 x.at_.line, .int .i64 x.at_.word, strV x.to.stem, .int .u8 x.to.mark, .int .i64 x.of_]) LDecision h o.stands o_v3) (o_c : Cells h o_b 0 [o_v0, o_v1, o_v2, o_v3]) {p : Place} (word : Str) (word_le : word.length ≤ 281474976710656) : Calls Tryz.prog 193 #[.pointer (some ⟨o_b, 0, none⟩), .agg #[.int .i64 p.chapter, .int .i64 p.line, .int .i64 p.word], strV word] w (fun e_ w' => ∃ h' bo bp bw, e_ = .returned (.func (.func 226) #[] #[.pointer (some ⟨bo, 0, none⟩), .pointer (some ⟨bp, 0, none⟩), .pointer (some ⟨bw, 0, none⟩)]) ∧ Le h h' ∧ St h w h' w' [] ∧ Cells h' bo 0 [.pointer (some ⟨o_b, 0, none⟩)] ∧ Cells h' bp 0 [.int .i64 p.chapter, .int .i64 p.line, .int .i64 p.word] ∧ Cells h' bw 0 [strV word]) := by
 refine zP (n := 8) Tryz.func193 X X X<|have st0:=t_s0 hs;have o_f0_b:=o_f0.le;have o_f1_b:=o_f1.le;have o_f2_b:=o_f2.le;W.sr<|zJ st0 (cs := [.pointer (some ⟨o_b, 0, none⟩)]) X X X<|fun b1 w2 h3 le4 hc5 st6=>zJ st6 (cs := [.int .i64 (p.chapter), .int .i64 (p.line), .int .i64 (p.word)]) X X X<|fun b7 w8 h9 le10 hc11 st12=>zJ st12 (cs := [strV word]) X X X<|fun b13 w14 h15 le16 hc17 st18=>zaf X X<|Y<|W.sr<|zcL X X X<|zi X X (r_asF X)<|Y<|zw<|zb Tryz.results193 ?_
 exact ⟨h15, _, _, _, rfl, ((le4.trans le10).trans le16), st18, (hc5.up (le10.trans le16)), (hc11.up le16), hc17⟩
theorem zhZ {h : Heap} {w : World} (hs : Sub h w) {o_b : Nat} {o : Office} {o_v0 : Value} (o_f0 : Sl LRule h o_v0 o.lex.rules) {o_v1 : Value} (o_f1 : Sl LDecision h o_v1 o.lex.decisions) {o_v2 : Value} (o_f2 : Sl LChapter h o_v2 o.text.chapters) {o_v3 : Value} (o_f3 : FML (fun n : Int => .int .i64 n) (fun x : Decision => [.int .i64 x.number, .int .u8 x.kind, strV x.form, .int .i64 x.at_.chapter, .int .i64 x.at_.line, .int .i64 x.at_.word, strV x.to.stem, .int .u8 x.to.mark, .int .i64 x.of_]) LDecision h o.stands o_v3) (o_c : Cells h o_b 0 [o_v0, o_v1, o_v2, o_v3]) {p : Place} (K1 : Cells h 1 0 Tryz.glob1) (ho : OkO o) (hp : zbE o.text p = true) : Calls Tryz.prog 150 #[.pointer (some ⟨o_b, 0, none⟩), .agg #[.int .i64 p.chapter, .int .i64 p.line, .int .i64 p.word]] w (Rets h w (fun _ _ res_ => res_ = .agg #[.int .i64 ((winD o.lex p (zcs o.text p))).number, .int .u8 ((winD o.lex p (zcs o.text p))).kind, strV ((winD o.lex p (zcs o.text p))).form, .int .i64 ((winD o.lex p (zcs o.text p))).at_.chapter, .int .i64 ((winD o.lex p (zcs o.text p))).at_.line, .int .i64 ((winD o.lex p (zcs o.text p))).at_.word, strV ((winD o.lex p (zcs o.text p))).to.stem, .int .u8 ((winD o.lex p (zcs o.text p))).to.mark, .int .i64 ((winD o.lex p (zcs o.text p))).of_])) := by
 refine V.calls (n := 57) Tryz.func150 X X X ?_
 have st0 := t_s0 hs
 have o_f0_b := o_f0.le
 have o_f1_b := o_f1.le
 have o_f2_b := o_f2.le
 obtain ⟨c, ln, wd, hpc, hc, hpl, hln, hpw, hwd, hwe⟩ := place_at hp
 have hw12 := wordD_len (zdW ho.1) hp
 rw [hwe] at hw12
 have hk4 : ∀ q ∈ o.stands, 1 ≤ q.2.kind ∧ q.2.kind ≤ 4 := fun q hq => (standM_ok ho.1 (ho.2 ▸ hq)).2.2.2
 have hDO : ∀ d ∈ o.stands.map (·.2), (0 ≤ d.number ∧ d.number ≤ 999) ∧ (0 ≤ d.kind ∧ d.kind ≤ 255) ∧ d.form.length ≤ 281474976710656 ∧ d.to.stem.length ≤ 281474976710656 ∧ (0 ≤ d.to.mark ∧ d.to.mark ≤ 255) := by
  intro d hd
  obtain ⟨q, hq, rfl⟩ := List.mem_map.1 hd
  have q1 := standM_ok ho.1 (ho.2 ▸ hq)
  obtain ⟨_, q2, q3, q4, q5⟩ := o_f3.2 q hq
  exact ⟨⟨by omega, by omega⟩, q2, q3, q4, q5⟩
 refine zdl<|zbo X<|zJ st0 (cs := [.int .i64 (p.chapter), .int .i64 (p.line), .int .i64 (p.word)]) X X X<|fun b1 w2 h3 le4 hc5 st6=>zQ st6 zbT X X<|fun b7 w8 st9=>zp<|zaU<|zdl<|V.ofW<|zbX Tryz.mixed t_kr (Cls h3 _) (Cls.drew st9)<|u_mvP X X<|zH X X (fun _ _ => (zdw X))<|zZ X zdI X zaA X X<|zZ X zaP X zbx X X<|zH X X (fun _ hC => (zf (j := 2) hC.sub (o_c.up le4) X X X zbW))<|zZ X zao X zl X X<|zH X X (fun _ hC => (zf (j := 0) hC.sub hc5 X X X zz)) ?_
 obtain ⟨b10, o11, _, he13, hc12, hr_c⟩ := Sl.elem (o_f2.up le4) hc
 obtain ⟨v14, rfl, f15⟩ := hr_c
 have f15_b := f15.le
 refine zH rfl rfl (fun _ _ => (zav he13 rfl rfl (hk := (show _ = ((p.chapter.toNat : Nat) : Int) by omega)) (hu := zaK) (hz := zbA))) ?_
 refine zZ X zaJ X zbH X X<|zH X X (fun _ hC => (zf (j := 1) hC.sub hc12 X X X zcm))<|zZ X zao X zl X X<|zH X X (fun _ hC => (zf (j := 1) hC.sub hc5 X X X zz)) ?_
 obtain ⟨b16, o17, _, he19, hc18, hr_ln⟩ := Sl.elem f15 hln
 obtain ⟨v20, rfl, f21⟩ := hr_ln
 have f21_b := f21.le
 refine zH rfl rfl (fun _ _ => (zav he19 rfl rfl (hk := (show _ = ((p.line.toNat : Nat) : Int) by omega)) (hu := zaO) (hz := zdK))) ?_
 refine zH X X (fun _ hC => (zf (j := 0) hC.sub hc18 X X X zee))<|zZ X zao X zl X X<|zH X X (fun _ hC => (zf (j := 2) hC.sub hc5 X X X zz)) ?_
 obtain ⟨b22, o23, _, he25, hc24, hr_wd⟩ := Sl.elem f21 hwd
 obtain ⟨rfl, ls26⟩ := hr_wd
 simp only [big] at ls26
 refine zH rfl rfl (fun _ _ => (zav he25 rfl rfl (hk := (show _ = ((p.word.toNat : Nat) : Int) by omega)) (hu := zV) (hz := zak))) ?_
 refine zH X X (fun _ hC => (zf (j := 0) hC.sub hc24 X X X zaD))<|u_asS X X<|zbC ?_
 rintro w27 ⟨h28, s29⟩
 have st30 := st9.call0 s29
 refine zaU<|zdl<|zbo X<|zQ st30 zbT X X<|fun b31 w32 st33=>zp<|zaU<|zdl<|zdl<|zbo X<|v_mvP X X<|zr st33.sub (hc5.up s29.le) X zaQ zW X X<|zcn X X ?_
 refine zay rfl rfl (zaV rfl Tryz.call193 rfl) ((ziz st33.sub (o := o) (o_f0.up (le4.trans s29.le)) (o_f1.up (le4.trans s29.le)) (o_f2.up (le4.trans s29.le)) (o_f3.up (le4.trans s29.le)) (o_c.up (le4.trans s29.le)) (p := p) _ zbr).mono ?_)
 rintro _ w34 ⟨h35, bo36, bp37, bw38, rfl, le39, s40, hc41, hc42, hc43⟩
 refine ⟨_, rfl, ?_⟩
 have st44 := st33.call s40
 have st45 : St h w h35 w34 [[(b7, .cells (List.toArray [.int .i64 0, .int .u8 0, strV [], .int .i64 0, .int .i64 0, .int .i64 0, strV [], .int .u8 0, .int .i64 0]) 74)], [(b31, .cells (List.toArray [.int .i64 0, .int .u8 0, strV [], .int .i64 0, .int .i64 0, .int .i64 0, strV [], .int .u8 0, .int .i64 0]) 74)]] := by rw [List.append_nil] at st44; exact st44
 refine zp<|zaU<|zgX ?_
 have l46 := (le4.trans s29.le).trans le39
 have seq47 : Gives Tryz.prog 226 [.pointer (some ⟨bo36, 0, none⟩), .pointer (some ⟨bp37, 0, none⟩), .pointer (some ⟨bw38, 0, none⟩)] (fun h_ u_ x_ => (∃ vs, u_ = .agg vs.toArray ∧ LDecision.R h_ vs x_) ∧ x_ ∈ o.stands.map (·.2)) (fun xs_ => ∃ dn : List (Int × Decision), dn.Perm o.stands ∧ xs_ = (dn.map (·.2)).filter fun d => zer d p wd) h w h35 := by
  intro l_ J_ Jx_ hm_ hxm_ hY_ h1_ w1_ rest_ le_ hJ_ st_
  exact zia (o := o) ((o_f0.up l46).up le_) ((o_f1.up l46).up le_) ((o_f2.up l46).up le_) ((o_f3.up l46).up le_) ((o_c.up l46).up le_) (hc41.up le_) (p := p) (hc42.up le_) (word := wd) (by assumption) (hc43.up le_) hm_ hxm_ hJ_ (fun _ _ _ _ _ _ _ l2_ a_ b_ c_ => hY_ _ _ _ _ _ _ _ (le_.trans l2_) a_ b_ c_) ((K1.up l46).up le_) (by exact hk4) st_
 refine V.rangeFunc (I := fun xs _ own_ => own_ = [[(b7, .cells (List.toArray [.int .i64 0, .int .u8 0, strV [], .int .i64 0, .int .i64 0, .int .i64 0, strV [], .int .u8 0, .int .i64 0]) 74)], [(b31, .cells (List.toArray [.int .i64 ((zaS xs).number), .int .u8 ((zaS xs).kind), strV ((zaS xs).form), .int .i64 ((zaS xs).at_.chapter), .int .i64 ((zaS xs).at_.line), .int .i64 ((zaS xs).at_.word), strV ((zaS xs).to.stem), .int .u8 ((zaS xs).to.mark), .int .i64 ((zaS xs).of_)]) 74)]] ∧ ∀ y ∈ xs, y ∈ o.stands.map (·.2)) (Ix := fun _ _ _ _ => False) st45 rfl Tryz.call226 rfl seq47 (by rintro _ _ _ _ h_ _; exact h_) (by intro _ _ _ _ _ h_ _; exact h_) ⟨rfl, by simp⟩ ?_ ?_ ?_
 ·rintro l_ pre x h48 w49 _ tail u50 le51 ⟨rfl, hi53⟩ st52 hA54
  obtain ⟨⟨_, rfl, hR_⟩, hxm⟩ := hA54
  obtain ⟨rfl, lu55, ls56, ls57, lu58⟩ := hR_
  simp only [big] at ls56
  simp only [big] at ls57
  have hDx := hDO _ hxm
  have hDb : (0 ≤ (zaS pre).number ∧ (zaS pre).number ≤ 999) ∧ (0 ≤ (zaS pre).kind ∧ (zaS pre).kind ≤ 255) ∧ (zaS pre).form.length ≤ 281474976710656 ∧ (zaS pre).to.stem.length ≤ 281474976710656 ∧ (0 ≤ (zaS pre).to.mark ∧ (zaS pre).to.mark ≤ 255) := best_ok (p := fun d => (0 ≤ d.number ∧ d.number ≤ 999) ∧ (0 ≤ d.kind ∧ d.kind ≤ 255) ∧ d.form.length ≤ 281474976710656 ∧ d.to.stem.length ≤ 281474976710656 ∧ (0 ≤ d.to.mark ∧ d.to.mark ≤ 255)) (by decide) (fun y hy => hDO y (hi53 y hy))
  obtain ⟨hDb1, hDb2, hDb3, hDb4, hDb5⟩ := id hDb
  refine zbo X<|zjp st52 zbT X X X (us := [.int .i64 (x.number), .int .u8 (x.kind), strV (x.form), .int .i64 (x.at_.chapter), .int .i64 (x.at_.line), .int .i64 (x.at_.word), strV (x.to.stem), .int .u8 (x.to.mark), .int .i64 (x.of_)]) (fun _ => X) (za X (za X (za X (za X (za X (za X (za X (za X (za X zan))))))))) zX X<|fun b59 w60 h61 le62 hc63 st64=>zp ?_
  refine APost.mk (own2 := [[(b7, .cells (List.toArray [.int .i64 0, .int .u8 0, strV [], .int .i64 0, .int .i64 0, .int .i64 0, strV [], .int .u8 0, .int .i64 0]) 74)], [(b31, .cells (List.toArray [.int .i64 ((zaS pre).number), .int .u8 ((zaS pre).kind), strV ((zaS pre).form), .int .i64 ((zaS pre).at_.chapter), .int .i64 ((zaS pre).at_.line), .int .i64 ((zaS pre).at_.word), strV ((zaS pre).to.stem), .int .u8 ((zaS pre).to.mark), .int .i64 ((zaS pre).of_)]) 74)]]) le62 st64 ?_
  intro tail67 w66 st65
  refine zgX<|zdl<|zbo X<|E X zo X zl X X<|zbi (st65.get (k := 1) X) X X zz X<|zdd X X X<|zS X X ?_
  refine zY (d := 35) rfl (fun g68 => ?_) (fun g68 => ?_)
  ·
   refine M X X X X X<|M X X X X X<|M X X X X X<|M X X X X X<|zT (v := (.bool _)) X X X<|zp<|zaU ?_
   refine V.cond rfl (fun c69 => ?_) (fun c69 => ?_)
   ·
    refine zbo X<|zr st65.sub hc63 X zaY zX X X<|zI st65 (k := 1) X X X (za X (za X (za X (za X (za X (za X (za X (za X (za X zan))))))))) zX X X X<|fun w70 st71=>zp<|zdi ?_
    refine zdZ (own3 := [[(b7, .cells (List.toArray [.int .i64 0, .int .u8 0, strV [], .int .i64 0, .int .i64 0, .int .i64 0, strV [], .int .u8 0, .int .i64 0]) 74)], [(b31, .cells (List.toArray [.int .i64 (x.number), .int .u8 (x.kind), strV (x.form), .int .i64 (x.at_.chapter), .int .i64 (x.at_.line), .int .i64 (x.at_.word), strV (x.to.stem), .int .u8 (x.to.mark), .int .i64 (x.of_)]) 74)]]) (Le.refl _) st71 ⟨?_, ?_⟩
    ·rw [zgj, zhi, if_pos (.inl g68)]
    ·intro y hy; rcases List.mem_append.1 hy with q | q; exact hi53 y q; (simp at q; rw [q]; exact hxm)
   ·
    cases c69
  ·
   refine Z X X X<|zr st65.sub hc63 X zaY zX X X<|Z X X X<|zbc (st65.get (k := 1) X) X zaY zX X X<|Z X X X ?_
   refine ze st65 rfl rfl rfl Tryz.call194 rfl (c_stem_first st65.sub (a := x) t_u8 zbr zbr t_u8 (b := (zaS pre)) t_u8 zbr zbr t_u8 (by exact hDx.1) (by exact hDb.1)) ?_
   intro r72 w73 h74 le75 st76 q77
   obtain rfl := q77
   refine Z X X X<|zdm X X X<|zN (v := (.bool _)) X X X<|zp<|zaU ?_
   refine V.cond rfl (fun c78 => ?_) (fun c78 => ?_)
   ·
    replace c78 := t_ot c78
    refine zbo X<|zr st76.sub (hc63.up le75) X zaY zX X X<|zI st76 (k := 1) X X X (za X (za X (za X (za X (za X (za X (za X (za X (za X zan))))))))) zX X X X<|fun w79 st80=>zp<|zdi ?_
    refine zdZ (own3 := [[(b7, .cells (List.toArray [.int .i64 0, .int .u8 0, strV [], .int .i64 0, .int .i64 0, .int .i64 0, strV [], .int .u8 0, .int .i64 0]) 74)], [(b31, .cells (List.toArray [.int .i64 (x.number), .int .u8 (x.kind), strV (x.form), .int .i64 (x.at_.chapter), .int .i64 (x.at_.line), .int .i64 (x.at_.word), strV (x.to.stem), .int .u8 (x.to.mark), .int .i64 (x.of_)]) 74)]]) le75 st80 ⟨?_, ?_⟩
    ·rw [zgj, zhi, if_pos (.inr c78)]
    ·intro y hy; rcases List.mem_append.1 hy with q | q; exact hi53 y q; (simp at q; rw [q]; exact hxm)
   ·
    replace c78 := t_of c78
    refine V.skip<|zdi ?_
    refine zdZ (own3 := [[(b7, .cells (List.toArray [.int .i64 0, .int .u8 0, strV [], .int .i64 0, .int .i64 0, .int .i64 0, strV [], .int .u8 0, .int .i64 0]) 74)], [(b31, .cells (List.toArray [.int .i64 ((zaS pre).number), .int .u8 ((zaS pre).kind), strV ((zaS pre).form), .int .i64 ((zaS pre).at_.chapter), .int .i64 ((zaS pre).at_.line), .int .i64 ((zaS pre).at_.word), strV ((zaS pre).to.stem), .int .u8 ((zaS pre).to.mark), .int .i64 ((zaS pre).of_)]) 74)]]) le75 st76 ⟨?_, ?_⟩
    ·rw [zgj, zhi, if_neg (by intro q; rcases q with q | q; exact g68 q; exact c78 q)]
    ·intro y hy; rcases List.mem_append.1 hy with q | q; exact hi53 y q; (simp at q; rw [q]; exact hxm)
 ·rintro D81 xs h82 w83 _ le84 hS85 ⟨rfl, hi86⟩ st87
  have hbe : zaS xs = zaS (conD o.lex p wd) := by
   obtain ⟨dn, q1, q2⟩ := hS85
   rw [q2]; exact conD_perm (okO_d ho) (ho.2 ▸ q1)
  have hDb := best_ok (p := fun d => (0 ≤ d.number ∧ d.number ≤ 999) ∧ (0 ≤ d.kind ∧ d.kind ≤ 255) ∧ d.form.length ≤ 281474976710656 ∧ d.to.stem.length ≤ 281474976710656 ∧ (0 ≤ d.to.mark ∧ d.to.mark ≤ 255)) (by decide) (fun y hy => hDO y (hi86 y hy))
  obtain ⟨hDb1, hDb2, hDb3, hDb4, hDb5⟩ := hDb
  have hzz : (zaS xs).number = 0 → zaS xs = zcw := bestOf_zero (fun y hy => by have := hi86 y hy; obtain ⟨q, hq, rfl⟩ := List.mem_map.1 this; exact (standM_ok ho.1 (ho.2 ▸ hq)).2.1)
  refine zdi<|zaU<|zdl<|zdl<|zbo X<|E X zo X zl X X<|zbi (st87.get (k := 1) X) X X zz X<|zdd X X X<|zp<|zaU ?_
  refine V.cond rfl (fun c88 => ?_) (fun c88 => ?_)
  ·
   replace c88 := t_ot c88
   refine zdl<|zbo X<|v_mvP X X<|zcn X X ?_
   have l89 := l46.trans le84
   refine ze st87 rfl rfl rfl Tryz.call195 rfl (c_stem_office_steps st87.sub (o := o) (o_f0.up l89) (o_f1.up l89) (o_f2.up l89) (o_f3.up l89) (o_c.up l89) _ zbr (by exact hw12)) ?_
   intro r90 w91 h92 le93 st94 q95
   obtain ⟨v96, e98, f97⟩ := q95
   rw [← e98] at f97
   have f97_b := f97.le
   refine zaf (v := r90) X X<|zp<|zaU<|zbo X<|zR (v := r90) X X<|zR (v := r90) X X<|zaH f97 X zV X ?_
   refine zi rfl rfl (ziF rfl rfl (by have := List.length_pos_iff.2 (stepsN_ne o.lex.rules 4 wd); omega)) ?_
   obtain ⟨lst, hlst⟩ : ∃ y_, (zdF (o).lex.rules 4 (wd))[(zdF o.lex.rules 4 wd).length - 1]? = some y_ := t_ge (by have := List.length_pos_iff.2 (stepsN_ne o.lex.rules 4 wd); omega)
   obtain ⟨b99, o100, _, he102, hc101, hr_lst⟩ := Sl.elem f97 hlst
   obtain ⟨rfl, ls103⟩ := hr_lst
   simp only [big] at ls103
   refine zi rfl rfl (zav he102 rfl rfl (hk := (show _ = (((zdF o.lex.rules 4 wd).length - 1 : Nat) : Int) by have := List.length_pos_iff.2 (stepsN_ne o.lex.rules 4 wd); omega)) (hu := zV) (hz := zak)) ?_
   refine U (j := 0) st94.sub hc101 X X X zaD X<|E X zo X zai X X<|E X zbn X zak X X<|zar st94 (k := 1) X X X X zak X X X<|fun w104 st105=>zp<|zaU<|zdl<|zbo X<|zbc (st105.get (k := 1) X) X zaY zX X X<|zI st105 (k := 0) X X X (za X (za X (za X (za X (za X (za X (za X (za X (za X zan))))))))) zX X X X<|fun w106 st107=> ?_
   obtain ⟨h108, le109, hb110, st112⟩ := st107.freeze (k := 0) rfl
   have hc111 := Cells.of hb110
   refine zp<|zaU<|V.ret<|zhJ (own := [[], [(b31, .cells (List.toArray [.int .i64 ((zaS xs).number), .int .u8 ((zaS xs).kind), strV ((zaS xs).form), .int .i64 ((zaS xs).at_.chapter), .int .i64 ((zaS xs).at_.line), .int .i64 ((zaS xs).at_.word), strV lst, .int .u8 ((zaS xs).to.mark), .int .i64 ((zaS xs).of_)]) 74)]]) st112<|fun w114 st113=>zdv Tryz.results150 X zaY zX X st113.sub hc111 ?_
   refine ⟨h108, _, rfl, st113.done, ?_⟩
   refine ?_
   rw [hwe, winD, ← hbe]
   (rw [if_pos (by simpa using c88), hzz (by simpa using c88), List.getLast?_eq_getElem?, hlst] <;> rfl)
  ·
   replace c88 := t_of c88
   refine V.skip<|zaU<|zdl<|zbo X<|zbc (st87.get (k := 1) X) X zaY zX X X<|zI st87 (k := 0) X X X (za X (za X (za X (za X (za X (za X (za X (za X (za X zan))))))))) zX X X X<|fun w115 st116=> ?_
   obtain ⟨h117, le118, hb119, st121⟩ := st116.freeze (k := 0) rfl
   have hc120 := Cells.of hb119
   refine zp<|zaU<|V.ret<|zhJ (own := [[], [(b31, .cells (List.toArray [.int .i64 ((zaS xs).number), .int .u8 ((zaS xs).kind), strV ((zaS xs).form), .int .i64 ((zaS xs).at_.chapter), .int .i64 ((zaS xs).at_.line), .int .i64 ((zaS xs).at_.word), strV ((zaS xs).to.stem), .int .u8 ((zaS xs).to.mark), .int .i64 ((zaS xs).of_)]) 74)]]) st121<|fun w123 st122=>zdv Tryz.results150 X zaY zX X st122.sub hc120 ?_
   refine ⟨h117, _, rfl, st122.done, ?_⟩
   refine ?_
   rw [hwe, winD, ← hbe]
   (rw [if_neg (by simpa using c88)] <;> rfl)
 intro _ _ _ _ _ _ _ hf_; exact hf_.elim
end Go.Pk

namespace Go.Pk
open Go Go.RowKit Go.Proofs
end Go.Pk

namespace Go.Pk
open Go Go.RowKit Go.Proofs
end Go.Pk

namespace Go.Pk
open Go Go.RowKit Go.Proofs
end Go.Pk

namespace Go.Pk
open Go Go.RowKit Go.Proofs
theorem c_stem_asked {h : Heap} {w : World} (hs : Sub h w) {t : Text} {t_v0 : Value} (t_f0 : Sl LChapter h t_v0 t.chapters) {x : Lexicon} {x_v0 : Value} (x_f0 : Sl LRule h x_v0 x.rules) {x_v1 : Value} (x_f1 : Sl LDecision h x_v1 x.decisions) {p : Place} (K1 : Cells h 1 0 Tryz.glob1) : Calls Tryz.prog 110 #[.agg #[t_v0], .agg #[x_v0, x_v1], .agg #[.int .i64 p.chapter, .int .i64 p.line, .int .i64 p.word]] w (Rets h w (fun _ _ res_ => res_ = .tuple #[.agg #[.int .i64 ((askR t x p)).number, .int .u8 ((askR t x p)).kind, strV ((askR t x p)).form, .int .i64 ((askR t x p)).at_.chapter, .int .i64 ((askR t x p)).at_.line, .int .i64 ((askR t x p)).at_.word, strV ((askR t x p)).to.stem, .int .u8 ((askR t x p)).to.mark, .int .i64 ((askR t x p)).of_], .int .i64 (askE t x p)])) := by
 refine zP (n := 35) Tryz.func110 X X X<|have st0:=t_s0 hs;have t_f0_b:=t_f0.le;have x_f0_b:=x_f0.le;have x_f1_b:=x_f1.le;W.sr<|zJ st0 (cs := [t_v0]) X X X<|fun b1 w2 h3 le4 hc5 st6=>zJ st6 (cs := [x_v0, x_v1]) X X X<|fun b7 w8 h9 le10 hc11 st12=>zJ st12 (cs := [.int .i64 (p.chapter), .int .i64 (p.line), .int .i64 (p.word)]) X X X<|fun b13 w14 h15 le16 hc17 st18=>zQ st18 zbT X X<|fun b19 w20 st21=>zq X X<|Y<|W.sr<|zr st21.sub (hc5.up (le10.trans le16)) X zbk zaA X X<|zr st21.sub (hc11.up le16) X zbL zaC X X<|have l22:=(le4.trans le10).trans le16;ze st21 X X X Tryz.call117 X (c_stem_open st21.sub (t := t) (t_f0.up l22) (x := x) (x_f0.up l22) (x_f1.up l22) (K1.up l22))<|fun r23 w24 h25 le26 st27 q28=> ?_
 rcases Bool.eq_false_or_eq_true (decide (zaR (t) (x) = 0)) with hb29 | hb29
 ·
  simp only [hb29, if_true, if_false, Bool.false_eq_true, reduceIte] at q28
  obtain ⟨v30, rfl, f31⟩ := q28
  obtain ⟨b32, vs33, rfl, hc34, hr35⟩ := f31
  obtain ⟨v36, v38, v40, v42, rfl, f37, f39, f41, lm43⟩ := hr35
  have f37_b := f37.le
  have f39_b := f39.le
  have f41_b := f41.le
  refine zbY X X<|zA (v := (.pointer (some _))) X X X<|zA (v := (.int _ _)) X X X<|v_asP X X<|zq X X<|Y<|zj<|W.sr<|zh X X<|zcf X X X<|Y ?_
  refine zC rfl (fun c44 => ?_) (fun c44 => ?_)
  ·
   refine W.sr<|zi X X (zbq (cs := [.int .i64 0, .int .u8 0, strV [], .int .i64 0, .int .i64 0, .int .i64 0, strV [], .int .u8 0, .int .i64 0]) t_kr)<|zh X X<|zI st27 (k := 0) X X X (za X (za X (za X (za X (za X (za X (za X (za X (za X zan))))))))) zX X X X<|fun w45 st46=>zq X X<|Y<|zw<|zd<|zcE Tryz.results110 X zaY zX X (st46.get (k := 0) X) ?_
   refine ⟨h25, _, rfl, st46.done, ?_⟩
   refine tup2 ?_ (zah ?_)
   ·rw [show askR t x p = zcw from by simp_all [askR]]; rfl
   simp_all [askE]
  refine zy<|O<|zj<|W.sr<|zr st27.sub (hc5.up ((le10.trans le16).trans le26)) X zbk zaA X X<|zr st27.sub (hc17.up le26) X zaQ zW X X<|have l47:=l22.trans le26;ze st27 X X X Tryz.call85 X (zgP st27.sub (t := t) (t_f0.up l47) (p := p))<|fun r48 w49 h50 le51 st52 q53=> ?_
  obtain rfl := q53
  refine zbY X X<|zA (v := (strV _)) X X X<|zA (v := (.int _ _)) X X X<|zfD X X<|zq X X<|Y<|W.sr<|zh X X<|zcf X X X<|Y ?_
  refine zC rfl (fun c54 => ?_) (fun c54 => ?_)
  ·
   refine W.sr<|zi X X (zbq (cs := [.int .i64 0, .int .u8 0, strV [], .int .i64 0, .int .i64 0, .int .i64 0, strV [], .int .u8 0, .int .i64 0]) t_kr)<|zh X X<|zI st52 (k := 0) X X X (za X (za X (za X (za X (za X (za X (za X (za X (za X zan))))))))) zX X X X<|fun w55 st56=>zq X X<|Y<|zw<|zd<|zcE Tryz.results110 X zaY zX X (st56.get (k := 0) X) ?_
   have hx0 : zaR t x = 0 := by simpa using c44
   have hp0 : ¬ zbE t p = true := by
    intro e
    have q1 := c54
    simp [zdW hx0, e] at q1
   refine ⟨h50, _, rfl, st56.done, ?_⟩
   refine tup2 ?_ (zah ?_)
   ·rw [show askR t x p = zcw from by simp [askR, hp0]]; rfl
   simp [askE, hx0, hp0, zdW hx0]
  refine zy<|O<|zj ?_
  have hx0 : zaR t x = 0 := by simpa using c44
  have hp0 : zbE t p = true := by
   have q := c54
   rw [zdW hx0] at q
   cases e : zbE t p with
   | true => rfl
   | false => rw [e] at q; simp at q
  refine zn<|v_mvP X X<|zr st52.sub (hc17.up (le26.trans le51)) X zaQ zW X X ?_
  have l57 := l47.trans le51
  refine ze st52 rfl rfl rfl Tryz.call150 rfl (zhZ st52.sub (o := (Office.mk (x) (t) (zeP (x)))) (f37.up le51) (f39.up le51) (f41.up le51) (lm43.up le51) (hc34.up le51) (p := p) (K1.up l57) (by exact ⟨by simpa using c44, rfl⟩) (by exact hp0)) ?_
  intro r58 w59 h60 le61 st62 q63
  obtain rfl := q63
  refine zI st62 (k := 0) X X X (za X (za X (za X (za X (za X (za X (za X (za X (za X zan))))))))) zX X X X<|fun w64 st65=>zq X X<|Y<|zw<|zcE Tryz.results110 X zaY zX X (st65.get (k := 0) X) ?_
  refine ⟨h60, _, rfl, st65.done, ?_⟩
  refine tup2 ?_ (zah ?_)
  ·rw [show askR t x p = winD x p (zcs t p) from by simp [askR, hx0, hp0]]; rfl
  simp [askE, hx0, hp0]
 simp only [hb29, if_true, if_false, Bool.false_eq_true, reduceIte] at q28
 obtain ⟨v66, rfl, f67⟩ := q28
 obtain rfl := f67
 refine zbY X X<|zA (v := (.pointer none)) X X X<|zA (v := (.int _ _)) X X X<|zaf X X<|zq X X<|Y<|zj<|W.sr<|zh X X<|zcf X X X<|Y ?_
 refine zC rfl (fun c68 => ?_) (fun c68 => ?_)
 ·
  refine W.sr<|zi X X (zbq (cs := [.int .i64 0, .int .u8 0, strV [], .int .i64 0, .int .i64 0, .int .i64 0, strV [], .int .u8 0, .int .i64 0]) t_kr)<|zh X X<|zI st27 (k := 0) X X X (za X (za X (za X (za X (za X (za X (za X (za X (za X zan))))))))) zX X X X<|fun w69 st70=>zq X X<|Y<|zw<|zd<|zcE Tryz.results110 X zaY zX X (st70.get (k := 0) X) ?_
  refine ⟨h25, _, rfl, st70.done, ?_⟩
  refine tup2 ?_ (zah ?_)
  ·rw [show askR t x p = zcw from by simp_all [askR]]; rfl
  simp_all [askE]
 exfalso
 simp_all
theorem c_stem_HeadOf {h : Heap} {w : World} (hs : Sub h w) {t : Text} {t_v0 : Value} (t_f0 : Sl LChapter h t_v0 t.chapters) {x : Lexicon} {x_v0 : Value} (x_f0 : Sl LRule h x_v0 x.rules) {x_v1 : Value} (x_f1 : Sl LDecision h x_v1 x.decisions) {p : Place} (K1 : Cells h 1 0 Tryz.glob1) : Calls Tryz.prog 79 #[.agg #[t_v0], .agg #[x_v0, x_v1], .agg #[.int .i64 p.chapter, .int .i64 p.line, .int .i64 p.word]] w (Rets h w (fun _ _ res_ => res_ = .tuple #[.agg #[strV ((askR t x p).to).stem, .int .u8 ((askR t x p).to).mark], .int .i64 (askE t x p)])) := by
 refine zP (n := 20) Tryz.func79 X X X<|have st0:=t_s0 hs;have t_f0_b:=t_f0.le;have x_f0_b:=x_f0.le;have x_f1_b:=x_f1.le;W.sr<|zJ st0 (cs := [t_v0]) X X X<|fun b1 w2 h3 le4 hc5 st6=>zJ st6 (cs := [x_v0, x_v1]) X X X<|fun b7 w8 h9 le10 hc11 st12=>zJ st12 (cs := [.int .i64 (p.chapter), .int .i64 (p.line), .int .i64 (p.word)]) X X X<|fun b13 w14 h15 le16 hc17 st18=>zQ st18 zeN X X<|fun b19 w20 st21=>zq X X<|Y<|W.sr<|zr st21.sub (hc5.up (le10.trans le16)) X zbk zaA X X<|zr st21.sub (hc11.up le16) X zbL zaC X X<|zr st21.sub hc17 X zaQ zW X X<|have l22:=(le4.trans le10).trans le16;ze st21 X X X Tryz.call110 X (c_stem_asked st21.sub (t := t) (t_f0.up l22) (x := x) (x_f0.up l22) (x_f1.up l22) (p := p) (K1.up l22))<|fun r23 w24 h25 le26 st27 q28=> ?_
 obtain rfl := q28
 refine zbY X X<|zA (v := (.agg (List.toArray _))) X X X<|zA (v := (.int _ _)) X X X<|zQ st27 zbT X X<|fun b29 w30 st31=>zI st31 (k := 1) X X X (za X (za X (za X (za X (za X (za X (za X (za X (za X zan))))))))) zX X X X<|fun w32 st33=> ?_
 obtain ⟨h34, le35, hb36, st38⟩ := st33.freeze (k := 1) rfl
 have hc37 := Cells.of hb36
 refine zq X X<|Y<|W.sr<|E X zo X zai X X<|zal (j := 6) st38.sub hc37 (us := [strV ((askR (t) (x) (p)).to.stem), .int .u8 ((askR (t) (x) (p)).to.mark)]) X X zbQ zai X X X<|zh X X<|zI st38 (k := 0) X X X (za X (za X zan)) zai X X X<|fun w39 st40=> ?_
 obtain ⟨h41, le42, hb43, st45⟩ := st40.freeze (k := 0) rfl
 have hc44 := Cells.of hb43
 refine zq X X<|Y<|zw<|Post.retcell2F Tryz.results79 X zbQ zai X st45.sub hc44 ?_
 refine ⟨h41, _, rfl, st45.done, ?_⟩
 refine tup2 ?_ (zah ?_)
 all_goals rfl
end Go.Pk

namespace Go.Pk
open Go Go.RowKit Go.Proofs
theorem c_stem_office_entries {h : Heap} {w : World} (hs : Sub h w) {o_b : Nat} {o : Office} {o_v0 : Value} (o_f0 : Sl LRule h o_v0 o.lex.rules) {o_v1 : Value} (o_f1 : Sl LDecision h o_v1 o.lex.decisions) {o_v2 : Value} (o_f2 : Sl LChapter h o_v2 o.text.chapters) {o_v3 : Value} (o_f3 : FML (fun n : Int => .int .i64 n) (fun x : Decision => [.int .i64 x.number, .int .u8 x.kind, strV x.form, .int .i64 x.at_.chapter, .int .i64 x.at_.line, .int .i64 x.at_.word, strV x.to.stem, .int .u8 x.to.mark, .int .i64 x.of_]) LDecision h o.stands o_v3) (o_c : Cells h o_b 0 [o_v0, o_v1, o_v2, o_v3]) (K1 : Cells h 1 0 Tryz.glob1) (ho : OkO o) : Calls Tryz.prog 118 #[.pointer (some ⟨o_b, 0, none⟩)] w (Rets h w (fun h' _ res_ => ∃ u0, res_ = u0 ∧ Sl LEntry h' u0 ((zbF o.text o.lex)))) := by
 refine zP (n := 55) Tryz.func118 X X X<|have st0:=t_s0 hs;have o_f0_b:=o_f0.le;have o_f1_b:=o_f1.le;have o_f2_b:=o_f2.le;have ht:=zdW ho.1;have hchl:=zgu ht;W.sr<|zcM X X<|Y<|W.sr<|zcM X X<|Y<|zj<|W.sr<|v_mvP X X<|zi X X (zdw X)<|E X zdI X zaA X X<|E X zaP X zbx X X<|U (j := 2) st0.sub o_c X X X zbW X<|zaH o_f2 X zaK X<|zh X X<|Y<|zG ?_
 have st4 := st0.snoc
 have f5 := OSl.nil LEntry 190 h
 refine zax (t_rg 3 7 ++ t_rg 16 38) (G := Nat × Value × List (Nat × Obj) × Heap) (fun ⟨i, v_3, o_3, h1⟩ => [(3, v_3), (16, .int .i64 (i : Int))]) (fun ⟨i, v_3, o_3, h1⟩ w' => Le h h1 ∧ St h w h1 w' [o_3] ∧ (OSl LEntry 190 h1 v_3 (((List.range i).flatMap (chapP o.text)).map (entryAt o.text o.lex)) o_3) ∧ (i ≤ o.text.chapters.length)) (fun ⟨i, v_3, o_3, h1⟩ => o.text.chapters.length - i) ⟨0, (.slice none 0 0), [], h⟩ ⟨rfl, rfl, trivial⟩ ⟨Le.refl _, st4, (OSl.to f5 (by rfl)), zaW⟩ ?_
 rintro ⟨i, v_3, o_3, h1⟩ _ w6 ⟨le2, st3, hO_3, hi⟩
 refine W.sr<|zaX X X X<|Y<|zj ?_
 refine zC rfl (fun c7 => ?_) (fun c7 => ?_)
 ·
  refine zy<|O<|zj<|zG<|W.sr<|zh X X ?_
  obtain ⟨c, hc⟩ : ∃ y_, (o.text.chapters)[i]? = some y_ := t_ge (by omega)
  obtain ⟨b8, o9, _, he11, hc10, hr_c⟩ := Sl.elem (o_f2.up le2) hc
  obtain ⟨v12, rfl, f13⟩ := hr_c
  have f13_b := f13.le
  refine zU he11 X X (hk := X) (hu := zaK) (hz := zbA) X<|zr st3.sub hc10 X Tryz.isAgg152 zbA X X<|zQ st3 Tryz.zeroValue152 X X<|fun b14 w15 st16=>zq X X<|zI st16 (k := 1) X X X (za X (za f13.one zan)) zbA X X X<|fun w17 st18=> ?_
  obtain ⟨h19, le20, hb21, st23⟩ := st18.freeze (k := 1) rfl
  have hc22 := Cells.of hb21
  refine zp ?_
  have q5 := zik ht i
  rw [zgr hc] at q5
  refine O<|W.sr<|E X zaJ X zbH X X<|U (j := 1) st23.sub hc22 X X X zcm X<|zaH (f13.up le20) X zaO X<|zh X X<|Y<|zG ?_
  refine zax ([3, 6, 7, 8, 9] ++ t_rg 24 29) (G := Nat × Value × List (Nat × Obj) × Heap) (fun ⟨n, v_3, o_3, h24⟩ => [(3, v_3), (24, .int .i64 (n : Int))]) (fun ⟨n, v_3, o_3, h24⟩ w' => Le h19 h24 ∧ St h w h24 w' [o_3, []] ∧ (OSl LEntry 190 h24 v_3 (((List.range i).flatMap (chapP o.text) ++ (List.range n).flatMap (lineP o.text i)).map (entryAt o.text o.lex)) o_3) ∧ (n ≤ c.lines.length)) (fun ⟨n, v_3, o_3, h24⟩ => c.lines.length - n) ⟨0, v_3, o_3, h19⟩ ⟨rfl, rfl, trivial⟩ ⟨Le.refl _, st23, (OSl.to (hO_3.up le20) (by simp)), zaW⟩ ?_
  rintro ⟨n, v_3, o_3, h24⟩ _ w27 ⟨le25, st26, hO_3, hn⟩
  refine W.sr<|zaX X X X<|Y<|zj ?_
  refine zC rfl (fun c28 => ?_) (fun c28 => ?_)
  ·
   refine zy<|O<|zj<|zG<|W.sr<|zh X X ?_
   obtain ⟨ln, hln⟩ : ∃ y_, (c.lines)[n]? = some y_ := t_ge (by omega)
   obtain ⟨b29, o30, _, he32, hc31, hr_ln⟩ := Sl.elem (f13.up (le20.trans le25)) hln
   obtain ⟨v33, rfl, f34⟩ := hr_ln
   have f34_b := f34.le
   refine zU he32 X X (hk := X) (hu := zaO) (hz := zdK) X<|U (j := 0) st26.sub hc31 X X X zee X<|zq X X<|zaf (v := v33) X X<|zp ?_
   have q4 := zif ht i n
   rw [zhx hc hln] at q4
   refine O<|W.sr<|zR (v := v33) X X<|zaH f34 X zV X<|zh X X<|Y<|zG ?_
   refine zax ([3, 8, 9] ++ t_rg 31 21) (G := Nat × Value × List (Nat × Obj) × Heap) (fun ⟨m, v_3, o_3, h35⟩ => [(3, v_3), (31, .int .i64 (m : Int))]) (fun ⟨m, v_3, o_3, h35⟩ w' => Le h24 h35 ∧ St h w h35 w' [o_3, []] ∧ (OSl LEntry 190 h35 v_3 (((List.range i).flatMap (chapP o.text) ++ (List.range n).flatMap (lineP o.text i) ++ (List.range m).map (mkP i n)).map (entryAt o.text o.lex)) o_3) ∧ (m ≤ ln.length)) (fun ⟨m, v_3, o_3, h35⟩ => ln.length - m) ⟨0, v_3, o_3, h24⟩ ⟨rfl, rfl, trivial⟩ ⟨Le.refl _, st26, (OSl.to hO_3 (by simp)), zaW⟩ ?_
   rintro ⟨m, v_3, o_3, h35⟩ _ w38 ⟨le36, st37, hO_3, hm⟩
   refine W.sr<|zaX X X X<|Y<|zj ?_
   refine zC rfl (fun c39 => ?_) (fun c39 => ?_)
   ·
    refine zy<|O<|zj<|zG<|W.sr<|zh X X<|zq X X<|Y<|W.sr<|zh X X<|zh X X<|zh X X<|zi X X (zbq (cs := [.int .i64 (i : Int), .int .i64 (n : Int), .int .i64 (m : Int)]) t_kr)<|zQ st37 Tryz.zeroValue70 X X<|fun b40 w41 st42=>zI st42 (k := 2) X X X (za X (za X (za X zan))) zW X X X<|fun w43 st44=> ?_
    obtain ⟨h45, le46, hb47, st49⟩ := st44.freeze (k := 2) rfl
    have hc48 := Cells.of hb47
    refine Y ?_
    have hp0 := place_mk (w := m) hc hln (by omega)
    have hhd := winD_ok ho.1 hp0
    simp only [mkP] at hp0 hhd
    obtain ⟨wd, hwd⟩ : ∃ y_, (ln)[m]? = some y_ := t_ge (by omega)
    obtain ⟨b50, o51, _, he53, hc52, hr_wd⟩ := Sl.elem (f34.up (le36.trans le46)) hwd
    obtain ⟨rfl, ls54⟩ := hr_wd
    simp only [big] at ls54
    refine zbg (er := ([], [3], [0], [], 0)) (dsts := [38, 39, 40, 41, 42, 43, 44, 45, 46, 47, 48, 49, 50, 3]) st49 Tryz.mixed<|zc 0 [] X t_kr t_kr X X (fun hD wD τD hL hS hO  => (zeQ (v := v_3) X))<|zc 1 [] X t_kr t_kr X X (fun hD wD τD hL hS hO  => (zat (hL.sub hS) hc48 X zaQ zW X))<|zc 2 [] X t_kr t_kr X X (fun hD wD τD hL hS hO  => (zeQ (v := v33) X))<|zc 3 [] X t_kr t_kr X X (fun hD wD τD hL hS hO  => (zel X))<|zc 4 [1, 0] X t_kr t_kr X X (fun hD wD τD hL hS hO _ _ _ _ => (zav he53 X X (hk := X) (hu := zV) (hz := zak)))<|zc 5 [0] X t_kr t_kr X X (fun hD wD τD hL hS hO _ _ => (zf (j := 0) (hL.sub hS) hc52 X X X zaD))<|zc 6 [] X t_kr t_kr X X (fun hD wD τD hL hS hO  => (r_mvP X))<|zc 7 [] X t_kr t_kr X X (fun hD wD τD hL hS hO  => (zat (hL.sub hS) hc48 X zaQ zW X)) ?_
    refine zas 8 (.det (.agg (List.toArray [.int .i64 ((winD (o).lex ((Place.mk ((i : Int)) ((n : Int)) ((m : Int)))) (zcs (o).text ((Place.mk ((i : Int)) ((n : Int)) ((m : Int)))))).number), .int .u8 ((winD (o).lex ((Place.mk ((i : Int)) ((n : Int)) ((m : Int)))) (zcs (o).text ((Place.mk ((i : Int)) ((n : Int)) ((m : Int)))))).kind), strV ((winD (o).lex ((Place.mk ((i : Int)) ((n : Int)) ((m : Int)))) (zcs (o).text ((Place.mk ((i : Int)) ((n : Int)) ((m : Int)))))).form), .int .i64 ((winD (o).lex ((Place.mk ((i : Int)) ((n : Int)) ((m : Int)))) (zcs (o).text ((Place.mk ((i : Int)) ((n : Int)) ((m : Int)))))).at_.chapter), .int .i64 ((winD (o).lex ((Place.mk ((i : Int)) ((n : Int)) ((m : Int)))) (zcs (o).text ((Place.mk ((i : Int)) ((n : Int)) ((m : Int)))))).at_.line), .int .i64 ((winD (o).lex ((Place.mk ((i : Int)) ((n : Int)) ((m : Int)))) (zcs (o).text ((Place.mk ((i : Int)) ((n : Int)) ((m : Int)))))).at_.word), strV ((winD (o).lex ((Place.mk ((i : Int)) ((n : Int)) ((m : Int)))) (zcs (o).text ((Place.mk ((i : Int)) ((n : Int)) ((m : Int)))))).to.stem), .int .u8 ((winD (o).lex ((Place.mk ((i : Int)) ((n : Int)) ((m : Int)))) (zcs (o).text ((Place.mk ((i : Int)) ((n : Int)) ((m : Int)))))).to.mark), .int .i64 ((winD (o).lex ((Place.mk ((i : Int)) ((n : Int)) ((m : Int)))) (zcs (o).text ((Place.mk ((i : Int)) ((n : Int)) ((m : Int)))))).of_)]))) [1, 0] rfl t_kr t_kr ?_ ?_
    ·
     intro hD wD τD hL hS hO _ _ _ _
     have st55 := St.start hS
     refine ze st55 rfl rfl rfl Tryz.call150 rfl (zhZ st55.sub (o := o) (o_f0.up (((((le2.trans le20).trans le25).trans le36).trans le46).trans hL)) (o_f1.up (((((le2.trans le20).trans le25).trans le36).trans le46).trans hL)) (o_f2.up (((((le2.trans le20).trans le25).trans le36).trans le46).trans hL)) (o_f3.up (((((le2.trans le20).trans le25).trans le36).trans le46).trans hL)) (o_c.up (((((le2.trans le20).trans le25).trans le36).trans le46).trans hL)) (p := (Place.mk ((i : Int)) ((n : Int)) ((m : Int)))) (K1.up (((((le2.trans le20).trans le25).trans le36).trans le46).trans hL)) (by exact ho) (by exact hp0)) ?_
     intro r56 w57 h58 le59 st60 q61
     obtain rfl := q61
     exact zp ⟨_, _, rfl, st60, (), rfl, trivial⟩
    refine zc 9 [0] X t_kr t_kr X X (fun hD wD τD hL hS hO _ _ => (r_fieldN (us := [strV ((winD (o).lex ((Place.mk ((i : Int)) ((n : Int)) ((m : Int)))) (zcs (o).text ((Place.mk ((i : Int)) ((n : Int)) ((m : Int)))))).to.stem), .int .u8 ((winD (o).lex ((Place.mk ((i : Int)) ((n : Int)) ((m : Int)))) (zcs (o).text ((Place.mk ((i : Int)) ((n : Int)) ((m : Int)))))).to.mark)]) X zo X zbQ zai X X))<|zc 10 [8, 4, 0] X t_kr t_kr X X (fun hD wD τD hL hS hO _ _ _ _ _ _ => (zbq (cs := [.int .i64 (i : Int), .int .i64 (n : Int), .int .i64 (m : Int), strV wd, strV ((winD (o).lex ((Place.mk ((i : Int)) ((n : Int)) ((m : Int)))) (zcs (o).text ((Place.mk ((i : Int)) ((n : Int)) ((m : Int)))))).to.stem), .int .u8 ((winD (o).lex ((Place.mk ((i : Int)) ((n : Int)) ((m : Int)))) (zcs (o).text ((Place.mk ((i : Int)) ((n : Int)) ((m : Int)))))).to.mark)]) t_kr)) ?_
    refine zas 11 (.res (fun h' res_ => Sl LEntry h' res_ ([(Entry.mk ((Place.mk ((i : Int)) ((n : Int)) ((m : Int)))) (wd) ((winD (o).lex ((Place.mk ((i : Int)) ((n : Int)) ((m : Int)))) (zcs (o).text ((Place.mk ((i : Int)) ((n : Int)) ((m : Int)))))).to))])) (fun _ _ _ hl f => f.up hl)) [0] rfl t_kr t_kr ?_ ?_
    ·
     intro hD wD τD hL hS hO _ _
     have st62 := St.start hS
     refine zac (L := LEntry) (xs := [(Entry.mk ((Place.mk ((i : Int)) ((n : Int)) ((m : Int)))) (wd) ((winD (o).lex ((Place.mk ((i : Int)) ((n : Int)) ((m : Int)))) (zcs (o).text ((Place.mk ((i : Int)) ((n : Int)) ((m : Int)))))).to))]) (cs := [.int .i64 (i : Int), .int .i64 (n : Int), .int .i64 (m : Int), strV wd, strV ((winD (o).lex ((Place.mk ((i : Int)) ((n : Int)) ((m : Int)))) (zcs (o).text ((Place.mk ((i : Int)) ((n : Int)) ((m : Int)))))).to.stem), .int .u8 ((winD (o).lex ((Place.mk ((i : Int)) ((n : Int)) ((m : Int)))) (zcs (o).text ((Place.mk ((i : Int)) ((n : Int)) ((m : Int)))))).to.mark)]) st62 (Enc.cons (L := LEntry) (vs := [.int .i64 (i : Int), .int .i64 (n : Int), .int .i64 (m : Int), strV wd, strV ((winD (o).lex ((Place.mk ((i : Int)) ((n : Int)) ((m : Int)))) (zcs (o).text ((Place.mk ((i : Int)) ((n : Int)) ((m : Int)))))).to.stem), .int .u8 ((winD (o).lex ((Place.mk ((i : Int)) ((n : Int)) ((m : Int)))) (zcs (o).text ((Place.mk ((i : Int)) ((n : Int)) ((m : Int)))))).to.mark)]) (x := (Entry.mk ((Place.mk ((i : Int)) ((n : Int)) ((m : Int)))) (wd) ((winD (o).lex ((Place.mk ((i : Int)) ((n : Int)) ((m : Int)))) (zcs (o).text ((Place.mk ((i : Int)) ((n : Int)) ((m : Int)))))).to))) (h := hD) (⟨rfl, zbr, zbr, t_u8⟩) Enc.nil) X X X Tryz.underlying187 Tryz.info190 X X X t_kr<|fun v63 w64 h67 le68 f65 st66=> ?_
     exact zp ⟨_, _, rfl, st66, _, rfl, f65⟩
    refine zbO<|zbO<|zbP X X X X X X ⟨t_kr, X, t_kr, X, t_kr, X, X, t_kr, (zbp X (zbp X zcu))⟩<|fun hE70 w71 _ le72 st73 _ _ gv11_0x69 gf11_0x69 _ _=> ?_
    refine zbB (k := 0) (nb := 64) st73 (hO_3.up (le46.trans le72)) rfl gf11_0x69 rfl rfl rfl Tryz.underlying187 Tryz.info190 rfl rfl rfl (by decide) rfl (by have q1 := zfg (chapP_len ht) i; have q2 := zfg (lineP_len ht i) n; have q3 := zgu ht; have q4 := zif ht i n; have q5 := zik ht i; rw [zgr hc] at q5; rw [zhx hc hln] at q4; simp only [List.length_append, List.length_map, List.length_range, List.length_cons, List.length_nil]; omega) (by have q1 := zfg (chapP_len ht) i; have q2 := zfg (lineP_len ht i) n; have q3 := zgu ht; have q4 := zif ht i n; have q5 := zik ht i; rw [zgr hc] at q5; rw [zhx hc hln] at q4; simp only [List.length_append, List.length_map, List.length_range, List.length_cons, List.length_nil]; omega) ?_
    intro v74 o75 w76 _ e77 f78 st79
    subst e77
    refine zp ⟨_, rfl, _, _, Le.refl _, st79, ?_⟩
    intro hE81 w82 _ le83 st84 _ _ _ _ _ _ _ _ _ _ _ _ _ _ _ _ _ _ _ _ _ _ gv11_0x80 gf11_0x80
    refine zaf (v := v74) X X ?_
    refine zp ⟨_, rfl, _, _, Le.refl _, st84, ?_⟩
    intro hE85 w86 _ le87 st88 _ _ _ _ _ _ _ _ _ _ _ _ _ _ _ _ _ _ _ _ _ _ gv11_0x89 gf11_0x89
    refine AllDeps.fin X<|zO<|O<|zn<|zaM X X t_om X<|zh X X<|Y ?_
    have l90 := (((le36.trans le46).trans le72).trans le83).trans le87
    refine ⟨⟨m + 1, v74, o75, hE85⟩, ⟨rfl, rfl, trivial⟩, ?_, ⟨l90, st88.take 2, ?_, ?_⟩, ?_⟩
    ·exact zau
    ·refine OSl.to (f78.up (le83.trans le87)) ?_
     have hww := word_mk hc hln hwd
     simp only [mkP] at hww
     rw [List.range_succ]; simp only [List.map_append, List.append_assoc, List.map_cons, List.map_nil, entryAt, ziv, mkP, hww]
    ·first | omega | (simp; omega)
    show ln.length - ((m + 1)) < ln.length - m
    omega
   refine zaI<|zm<|zm<|zam<|zO<|O<|zn<|zaM X X t_om X<|zh X X<|Y ?_
   refine ⟨⟨n + 1, v_3, o_3, h35⟩, ⟨rfl, rfl, trivial⟩, ?_, ⟨(le25.trans le36), st37, ?_, ?_⟩, ?_⟩
   ·exact zau
   ·refine OSl.to hO_3 ?_
    rw [range_flat_succ, ← lineP_snoc hc hln (w := m) (by omega), List.append_assoc]
   ·first | omega | (simp; omega)
   show c.lines.length - ((n + 1)) < c.lines.length - n
   omega
  refine zaI<|zm<|zm<|zam<|zO<|O<|zn<|zaM X X t_om X<|zh X X<|Y ?_
  have l91 := (le2.trans le20).trans le25
  refine ⟨⟨i + 1, v_3, o_3, h24⟩, ⟨rfl, rfl, trivial⟩, ?_, ⟨l91, st26.take 1, ?_, ?_⟩, ?_⟩
  ·exact zau
  ·refine OSl.to hO_3 ?_
   rw [range_flat_succ, ← chapP_snoc hc (n := n) (by omega)]
  ·first | omega | (simp; omega)
  show o.text.chapters.length - ((i + 1)) < o.text.chapters.length - i
  omega
 refine zaI<|zm<|zm<|zam<|O<|W.sr<|zR (v := v_3) X X<|zaf (v := v_3) X X<|Y<|zw<|zb Tryz.results118 ?_
 obtain ⟨h92, le93, f94, st95⟩ := OSl.freeze (k := 0) st3 hO_3 rfl (by have q1 := zfg (chapP_len ht) i; have q3 := zgu ht; rw [List.length_map]; omega)
 refine ⟨h92, _, rfl, st95.done, ?_⟩
 refine ⟨_, rfl, Sl.to f94 ?_⟩
 rw [show i = o.text.chapters.length by omega]; rfl
end Go.Pk

namespace Go.Pk
open Go Go.RowKit Go.Proofs
theorem zft {xs : List Str} {v : Value} {o : List (Nat × Obj)} {g : FuncId} {caps : List Value} {h0 h : Heap} {w0 w : World} {own : Own} {i : Nat} (st : St h0 w0 h w own) (hO : OSl LStr 9 h v xs o) (hi : own[i]? = some o) (hb : xs.length ≤ 281474976710656) (q : Str → Bool)
  (hg : ∀ a w, (callFunc g a).run Tryz.prog w = .ok (.enter g a) w)
  (hf : ∀ x h' w' vs, Le h h' → Sub h' w' → x ∈ xs → LStr.R h' vs x → ∀ u, vs = [u] → Calls Tryz.prog g (u :: caps).toArray w' (Rets h' w' fun _ _ r => r = .bool (q x))) :
  Calls Tryz.prog 123 #[v, .func (.func g) #[] caps.toArray] w (fun e w' => ∃ k, e = .returned (.int .i64 (if k < xs.length then (k : Int) else -1)) ∧ k ≤ xs.length ∧ (∀ j x, j < k → xs[j]? = some x → q x = false) ∧ (∀ x, xs[k]? = some x → q x = true) ∧ St h0 w0 h w' own) := by
 obtain ⟨hall, hx⟩ := OSl.whole st hO hi hb
 refine (zdL (fun k h' w' => St (zeR w) w h' w' [] ∧ k ≤ xs.length) (fun k => ((xs[k]?).map q).getD false) (fun k h' w' hk => ⟨hk.1.sub, hx.up hk.1.le⟩) ?_ hg ⟨St.start (zfX w), Nat.zero_le _⟩).mono ?_
 ·rintro k x h' w' vs ⟨st', _⟩ hk hr u hu
  refine (hf x h' w' vs (hall.trans st'.le) st'.sub (List.mem_of_getElem? hk) hr u hu).mono ?_
  rintro e w'' ⟨h'', r, rfl, s, rfl⟩
  obtain ⟨hlt, _⟩ := List.getElem?_eq_some_iff.1 hk
  exact ⟨h'', by simp [hk], st'.call0 s, hlt⟩
 ·rintro e w' ⟨h', k, rfl, q1, q2, q3, q4⟩
  refine ⟨k, rfl, q1, fun j x hj hx => ?_, fun x hx => ?_, st.call0 (St.thaw q4.1 st.sub)⟩
  ·have := q2 j hj; simpa [hx] using this
  ·obtain ⟨hlt, _⟩ := List.getElem?_eq_some_iff.1 hx
   have := q3 hlt; simpa [hx] using this
theorem zgb {h0 h : Heap} {w0 w : World} {rest : Own} {s : (List Str)} {s_o : List (Nat × Obj)} {s_v : Value} (s_f : OSl LStr 9 h s_v s s_o) {g : FuncId} {caps : List Value} (q : Str → Bool) (hb : s.length ≤ 281474976710656) (hg : ∀ a w, (callFunc g a).run Tryz.prog w = .ok (.enter g a) w) (hf : ∀ x h' w' vs, Le h h' → Sub h' w' → x ∈ s → LStr.R h' vs x → ∀ u, vs = [u] → Calls Tryz.prog g (u :: caps).toArray w' (Rets h' w' fun _ _ r => r = .bool (q x))) (st0 : St h0 w0 h w (s_o :: rest)) : Calls Tryz.prog 86 #[s_v, .func (.func g) #[] caps.toArray] w (fun e_ w' => ∃ h' s_o' v', e_ = .returned v' ∧ Le h h' ∧ St h0 w0 h' w' (s_o' :: rest) ∧ OSl LStr 9 h' v' (s.filter fun x => !q x) s_o') := by
 refine zP (n := 42) Tryz.func86 X X X<|W.sr<|zcM X X<|Y<|W.sr<|zR (v := s_v) X X<|zR X X ?_
 refine zay rfl rfl (zaV rfl Tryz.call123 rfl) ((zft (i := 0) st0 s_f rfl hb q hg (fun x h1 w1 vs le_ => hf x h1 w1 vs ((Le.refl _).trans le_))).mono ?_)
 rintro _ w1 ⟨kq, rfl, hk1, hk2, hk3, st6⟩
 refine ⟨_, rfl, ?_⟩
 obtain ⟨rq, hrq⟩ : ∃ r : Int, r = if kq < s.length then (kq : Int) else -1 := ⟨_, rfl⟩
 rw [← hrq]
 refine zq X X<|Y<|zj<|W.sr<|zh X X<|zdd X X X<|Y ?_
 refine zC rfl (fun c9 => ?_) (fun c9 => ?_)
 ·
  refine W.sr<|zR (v := s_v) X X<|zaf (v := s_v) X X<|Y<|zw<|zd<|zb Tryz.results86 ?_
  refine ⟨h, _, _, rfl, (Le.refl _), st6, OSl.to s_f ?_⟩
  exact (filter_none (fun j x hj hx => hk2 j x (by by_cases q : kq < s.length; (rw [if_pos q] at hrq; have q2 := c9; omega); omega) hx)).symm
 refine zy<|O<|zj<|zj ?_
 have hk : kq < s.length := by
  by_cases q : kq < s.length
  ·exact q
  ·rw [if_neg q] at hrq; exact absurd hrq c9
 rw [if_pos hk] at hrq
 refine zn<|zh X X<|zaM X X t_om X<|zq X X<|Y<|zG ?_
 refine zax ([0, 5, 6, 7] ++ t_rg 16 20) (G := Nat × Nat × List Str × Value × List (Nat × Obj) × Heap) (fun ⟨i, j, ys, v_0, o_0, h10⟩ => [(0, v_0), (5, .int .i64 (i : Int)), (6, .int .i64 (j : Int))]) (fun ⟨i, j, ys, v_0, o_0, h10⟩ w' => Le h h10 ∧ St h0 w0 h10 w' (o_0 :: rest) ∧ (OSl LStr 9 h10 v_0 (ys) o_0) ∧ (DelF q s ys i j) ∧ (ys.length = s.length ∧ i ≤ j ∧ j ≤ s.length)) (fun ⟨i, j, ys, v_0, o_0, h10⟩ => s.length - j) ⟨kq, kq + 1, s, s_v, s_o, h⟩ ⟨rfl, (zah (by omega)), (zah (by omega)), trivial⟩ ⟨Le.refl _, st6, (OSl.to s_f (by rfl)), (by exact DelF.start hk2 hk3 hk), (by exact ⟨rfl, by omega, by omega⟩)⟩ ?_
 rintro ⟨i, j, ys, v_0, o_0, h10⟩ _ w13 ⟨le11, st12, hO_0, hD, hyl⟩
 refine zj<|W.sr<|zh X X<|zR (v := v_0) X X<|zfq hO_0 X zV X<|zaX X X X<|Y ?_
 refine zC rfl (fun c14 => ?_) (fun c14 => ?_)
 ·
  refine zy<|O<|zj<|zG<|W.sr<|zR (v := v_0) X X<|zh X X ?_
  obtain ⟨y, hy⟩ : ∃ y_, (ys)[j]? = some y_ := t_ge (by omega)
  obtain ⟨b15, o16, cur17, _, e20, he18, hr_y, hc19⟩ := OSl.elem hO_0 hy
  subst e20
  obtain ⟨rfl, ls21⟩ := hr_y
  simp only [big] at ls21
  refine zU he18 X X (hk := X) (hu := zV) (hz := zak) X<|zi X X (zcN (j := 0) (st12.get (k := 0) X) hc19 X X X zaD)<|zfD X X<|Y<|W.sr<|zR X X<|zcn X X ?_
  refine zay rfl rfl (zca (fs := []) (cs := caps) rfl rfl hg rfl) ((hf y _ _ _ le11 st12.sub (List.mem_of_getElem? (hD.get hy)) ⟨rfl, zbr⟩ _ rfl).mono ?_)
  rintro _ w22 ⟨h23, _, rfl, s24, rfl⟩
  refine ⟨_, rfl, ?_⟩
  have st25 := st12.call0 s24
  have le26 := s24.le
  refine zbl X X<|Y ?_
  refine zae rfl (fun c27 => ?_) (fun c27 => ?_)
  ·
   refine W.sr<|zR (v := v_0) X X<|zh X X<|zcn X X ?_
   obtain ⟨y2, hy2⟩ : ∃ y_, (ys)[i]? = some y_ := t_ge (by omega)
   obtain ⟨b28, o29, cur30, _, e33, he31, hr_y2, hc32⟩ := OSl.elem (hO_0.up le26) hy2
   obtain ⟨hb34, hc35⟩ : b15 = b28 ∧ cur17 = cur30 := by cases e33; exact ⟨rfl, rfl⟩
   subst hb34
   subst hc35
   obtain ⟨rfl, ls36⟩ := hr_y2
   simp only [big] at ls36
   refine zi rfl rfl (zav he31 rfl rfl (hk := (show _ = ((i : Nat) : Int) by omega)) (hu := zV) (hz := zak)) ?_
   refine zdS (k := 0) st25 (hO_0.up le26) rfl (by omega) he31 rfl rfl (⟨rfl, zbr⟩) zak ?_
   intro o37 w38 _ e39 f40 st41
   subst e39
   refine Y<|zn<|zh X X<|zaM X X t_om X<|zq X X<|zp<|zO<|O<|zn<|zh X X<|zaM X X t_om X<|zq X X<|Y ?_
   have l42 := le11.trans le26
   refine ⟨⟨i + 1, j + 1, (ys.set i y), v_0, o37, h23⟩, ⟨rfl, rfl, rfl, trivial⟩, ?_, ⟨l42, st41, ?_, ?_, ?_⟩, ?_⟩
   ·exact zau
   ·refine OSl.to f40 ?_
    rfl
   ·exact hD.keep hy (by simpa using c27)
   ·refine ⟨by first | (rw [List.length_set]; exact hyl.1) | exact hyl.1, by omega, by omega⟩
   show s.length - ((j + 1)) < s.length - j
   omega
  refine zy<|zO<|O<|zn<|zh X X<|zaM X X t_om X<|zq X X<|Y ?_
  have l43 := le11.trans le26
  refine ⟨⟨i, j + 1, ys, v_0, [(b15, .cells cur17 9)], h23⟩, ⟨rfl, rfl, rfl, trivial⟩, ?_, ⟨l43, st25, ?_, ?_, ?_⟩, ?_⟩
  ·exact zau
  ·refine OSl.to (hO_0.up le26) ?_
   rfl
  ·exact hD.skip hy (by simpa using c27)
  ·refine ⟨by first | (rw [List.length_set]; exact hyl.1) | exact hyl.1, by omega, by omega⟩
  show s.length - ((j + 1)) < s.length - j
  omega
 refine zaI<|zm<|zm<|zam<|O<|W.sr<|zR (v := v_0) X X<|zh X X ?_
 refine zi rfl rfl (zeq hO_0 rfl rfl (hk := (show _ = ((i : Nat) : Int) by omega)) (by omega) zV zak) ?_
 refine zid (k := 0) (j := i) st12 hO_0 rfl (by omega) rfl zV Tryz.zeroValue9 rfl (by decide) ?_
 intro o44 w45 _ e46 f47 st48
 subst e46
 refine Y<|W.sr<|zR (v := v_0) X X<|zh X X ?_
 refine zi rfl rfl (zhR hO_0 rfl rfl (hk := (show _ = ((i : Nat) : Int) by omega)) (by omega) zV zak) ?_
 refine zaf (v := (vtake v_0 (i))) X X<|Y<|zw<|zb Tryz.results86 ?_
 refine ⟨h10, _, _, rfl, le11, st48, OSl.to f47 ?_⟩
 exact hD.fin (by omega)
end Go.Pk

namespace Go.Pk
open Go Go.RowKit Go.Proofs
theorem zgA {h0 h : Heap} {w0 w : World} {rest : Own} {s : (List Str)} {s_o : List (Nat × Obj)} {s_v : Value} (s_f : OSl LStr 9 h s_v s s_o) (hb : s.length ≤ 281474976710656) (st0 : St h0 w0 h w (s_o :: rest)) : Calls Tryz.prog 120 #[s_v] w (fun e_ w' => ∃ h' s_o' v', e_ = .returned v' ∧ Le h h' ∧ St h0 w0 h' w' (s_o' :: rest) ∧ OSl LStr 9 h' v' (zcp s) s_o') := by
 refine zP (n := 61) Tryz.func120 X X X<|W.sr<|zcM X X<|Y<|zj<|W.sr<|zR (v := s_v) X X<|zfq s_f X zV X<|zaX X X X<|Y ?_
 refine zC rfl (fun c1 => ?_) (fun c1 => ?_)
 ·
  refine W.sr<|zR (v := s_v) X X<|zaf (v := s_v) X X<|Y<|zw<|zd<|zb Tryz.results120 ?_
  refine ⟨h, _, _, rfl, (Le.refl _), st0, OSl.to s_f ?_⟩
  exact (comp_short (by omega)).symm
 refine zy<|O<|zj<|W.sr<|zq X X<|Y<|zG ?_
 refine zax ([2, 3, 4, 5] ++ t_rg 10 50) (G := Nat × List (Nat × Obj) × Heap) (fun ⟨k, o_0, h2⟩ => [(3, .int .i64 (k : Int))]) (fun ⟨k, o_0, h2⟩ w' => Le h h2 ∧ St h0 w0 h2 w' (o_0 :: rest) ∧ (OSl LStr 9 h2 s_v (s) o_0) ∧ (1 ≤ k ∧ k ≤ s.length) ∧ (zcp (s.take k) = s.take k)) (fun ⟨k, o_0, h2⟩ => s.length - k) ⟨1, s_o, h⟩ ⟨rfl, trivial⟩ ⟨Le.refl _, st0, (OSl.to s_f (by rfl)), (by exact ⟨by omega, by omega⟩), (by exact comp_one (by omega))⟩ ?_
 rintro ⟨k, o_0, h2⟩ _ w5 ⟨le3, st4, hO_0, hk, hc⟩
 refine zj<|W.sr<|zh X X<|zR (v := s_v) X X<|zfq hO_0 X zV X<|zaX X X X<|Y ?_
 refine zC rfl (fun c6 => ?_) (fun c6 => ?_)
 ·
  refine zy<|O<|zj<|zG<|zj<|zbX Tryz.mixed t_kr (Cls h2 _) (Cls.drew st4)<|zfU (v := s_v) X X<|zde X X ?_
  obtain ⟨y, hy⟩ : ∃ y_, (s)[k]? = some y_ := t_ge (by omega)
  obtain ⟨b7, o8, cur9, _, e12, he10, hr_y, hc11⟩ := OSl.elem hO_0 hy
  subst e12
  obtain ⟨rfl, ls13⟩ := hr_y
  simp only [big] at ls13
  refine zbZ he10 X X (hk := X) (hu := zV) (hz := zak) X<|zH X X (fun _ hC => (zcN (j := 0) (hC.block (st4.get (k := 0) X)) hc11 X X X zaD))<|zfU (v := s_v) X X<|zde X X<|u_sub X X t_om X ?_
  obtain ⟨z, hz⟩ : ∃ y_, (s)[k - 1]? = some y_ := t_ge (by omega)
  obtain ⟨b14, o15, cur16, _, e19, he17, hr_z, hc18⟩ := OSl.elem hO_0 hz
  obtain ⟨hb20, hc21⟩ : b7 = b14 ∧ cur9 = cur16 := by cases e19; exact ⟨rfl, rfl⟩
  subst hb20
  subst hc21
  obtain ⟨rfl, ls22⟩ := hr_z
  simp only [big] at ls22
  refine zH rfl rfl (fun _ _ => (zav he17 rfl rfl (hk := (show _ = ((k - 1 : Nat) : Int) by omega)) (hu := zV) (hz := zak))) ?_
  refine zH X X (fun _ hC => (zcN (j := 0) (hC.block (st4.get (k := 0) X)) hc18 X X X zaD))<|u_seql X X X<|zbC ?_
  rintro w23 ⟨h24, s25⟩
  have st26 := st4.call0 s25
  refine O ?_
  refine zC rfl (fun c27 => ?_) (fun c27 => ?_)
  ·
   refine W.sr<|zR (v := s_v) X X<|zh X X ?_
   refine zi rfl rfl (zeq (hO_0.up s25.le) rfl rfl (hk := (show _ = ((k : Nat) : Int) by omega)) (by omega) zV zak) ?_
   refine zaf (v := (zfK 1 s_v (k))) X X<|Y<|zj<|W.sr<|zq X X<|Y<|zG ?_
   refine zax ([3, 5] ++ t_rg 29 25) (G := Nat × Nat × List Str × List (Nat × Obj) × Heap) (fun ⟨i, k2, ys, o_0, h28⟩ => [(3, .int .i64 (i : Int)), (5, .int .i64 (k2 : Int))]) (fun ⟨i, k2, ys, o_0, h28⟩ w' => Le h24 h28 ∧ St h0 w0 h28 w' (o_0 :: rest) ∧ (OSl LStr 9 h28 s_v (ys) o_0) ∧ (1 ≤ k2 ∧ k + k2 ≤ s.length ∧ ys.length = s.length ∧ i + 1 ≤ k + k2) ∧ (Comp s ys i (k + k2))) (fun ⟨i, k2, ys, o_0, h28⟩ => s.length - (k + k2)) ⟨k, 1, s, [(b7, .cells cur9 9)], h24⟩ ⟨rfl, rfl, trivial⟩ ⟨Le.refl _, st26, (OSl.to (hO_0.up s25.le) (by rfl)), (by exact ⟨by omega, by omega, rfl, by omega⟩), (by exact Comp.start hz hy hk.1 hc (by simpa using c27))⟩ ?_
   rintro ⟨i, k2, ys, o_0, h28⟩ _ w31 ⟨le29, st30, hO_0, hk2, hD⟩
   refine zj<|W.sr<|zh X X<|zR (v := (zfK 1 s_v (k))) X X<|zi X X (r_len_vdrop X (OSl.form hO_0) zV)<|zaX X X X<|Y ?_
   refine zC rfl (fun c32 => ?_) (fun c32 => ?_)
   ·
    refine zy<|O<|zj<|zG<|zj<|zbX Tryz.mixed t_kr (Cls h28 _) (Cls.drew st30)<|zfU (v := (zfK 1 s_v (k))) X X<|zde X X ?_
    obtain ⟨y2, hy2⟩ : ∃ y_, (ys)[k + k2]? = some y_ := t_ge (by omega)
    obtain ⟨b33, o34, cur35, _, e38, he36, hr_y2, hc37⟩ := OSl.elem hO_0 hy2
    subst e38
    obtain ⟨rfl, ls39⟩ := hr_y2
    simp only [big] at ls39
    refine zH rfl rfl (fun _ _ => (zav (Elem.drop' (k := k) (j := k2) he36 (by omega) (OSl.caps hO_0)) rfl rfl (hk := rfl) (hu := zV) (hz := zak))) ?_
    refine zH X X (fun _ hC => (zcN (j := 0) (hC.block (st30.get (k := 0) X)) hc37 X X X zaD))<|zfU (v := (zfK 1 s_v (k))) X X<|zde X X<|u_sub X X t_om X ?_
    obtain ⟨z2, hz2⟩ : ∃ y_, (ys)[k + k2 - 1]? = some y_ := t_ge (by omega)
    obtain ⟨b40, o41, cur42, _, e45, he43, hr_z2, hc44⟩ := OSl.elem hO_0 hz2
    obtain ⟨hb46, hc47⟩ : b33 = b40 ∧ cur35 = cur42 := by cases e45; exact ⟨rfl, rfl⟩
    subst hb46
    subst hc47
    obtain ⟨rfl, ls48⟩ := hr_z2
    simp only [big] at ls48
    refine zH rfl rfl (fun _ _ => (zav (Elem.drop' (k := k) (j := k2 - 1) he43 (by omega) (OSl.caps hO_0)) rfl rfl (hk := (show _ = ((k2 - 1 : Nat) : Int) by omega)) (hu := zV) (hz := zak))) ?_
    refine zH X X (fun _ hC => (zcN (j := 0) (hC.block (st30.get (k := 0) X)) hc44 X X X zaD))<|zH X X (fun _ _ => (r_sneq X X))<|zbC ?_
    rintro w49 ⟨h50, s51⟩
    have st52 := st30.call0 s51
    refine O ?_
    refine zC rfl (fun c53 => ?_) (fun c53 => ?_)
    ·
     refine W.sr<|zR (v := s_v) X X<|zh X X<|zR (v := (zfK 1 s_v (k))) X X<|zh X X ?_
     obtain ⟨b54, o55, cur56, _, e59, he57, hr_y2, hc58⟩ := OSl.elem (hO_0.up s51.le) hy2
     obtain ⟨hb60, hc61⟩ : b33 = b54 ∧ cur35 = cur56 := by cases e59; exact ⟨rfl, rfl⟩
     subst hb60
     subst hc61
     obtain ⟨rfl, ls62⟩ := hr_y2
     simp only [big] at ls62
     refine zi rfl rfl (zav (Elem.drop' (k := k) (j := k2) he57 (by omega) (OSl.caps (hO_0.up s51.le))) rfl rfl (hk := rfl) (hu := zV) (hz := zak)) ?_
     refine zi X X (zcN (j := 0) (st52.get (k := 0) X) hc58 X X X zaD) ?_
     obtain ⟨u2, hu2⟩ : ∃ y_, (ys)[i]? = some y_ := t_ge (by omega)
     obtain ⟨b63, o64, cur65, _, e68, he66, hr_u2, hc67⟩ := OSl.elem (hO_0.up s51.le) hu2
     obtain ⟨hb69, hc70⟩ : b33 = b63 ∧ cur35 = cur65 := by cases e68; exact ⟨rfl, rfl⟩
     subst hb69
     subst hc70
     obtain ⟨rfl, ls71⟩ := hr_u2
     simp only [big] at ls71
     refine zi rfl rfl (zav he66 rfl rfl (hk := (show _ = ((i : Nat) : Int) by omega)) (hu := zV) (hz := zak)) ?_
     refine zdS (k := 0) st52 (hO_0.up s51.le) rfl (by omega) he66 rfl rfl (⟨rfl, zbr⟩) zak ?_
     intro o72 w73 _ e74 f75 st76
     subst e74
     refine Y<|zn<|zh X X<|zaM X X t_om X<|zq X X<|zp<|zO<|O<|zn<|zh X X<|zaM X X t_om X<|zq X X<|Y ?_
     refine ⟨⟨i + 1, k2 + 1, (ys.set i y2), o72, h50⟩, ⟨rfl, rfl, trivial⟩, ?_, ⟨(le29.trans s51.le), st76, ?_, ?_, ?_⟩, ?_⟩
     ·exact zau
     ·refine OSl.to f75 ?_
      rfl
     ·refine ⟨by omega, by omega, by first | (rw [List.length_set]; omega) | omega, by omega⟩
     ·exact hD.keep hy2 hz2 (by simpa using c53)
     show s.length - (k + ((k2 + 1))) < s.length - (k + k2)
     omega
    refine zy<|zO<|O<|zn<|zh X X<|zaM X X t_om X<|zq X X<|Y ?_
    refine ⟨⟨i, k2 + 1, ys, [(b33, .cells cur35 9)], h50⟩, ⟨rfl, rfl, trivial⟩, ?_, ⟨(le29.trans s51.le), st52, ?_, ?_, ?_⟩, ?_⟩
    ·exact zau
    ·refine OSl.to (hO_0.up s51.le) ?_
     rfl
    ·refine ⟨by omega, by omega, by first | (rw [List.length_set]; omega) | omega, by omega⟩
    ·exact hD.skip hy2 hz2 (by simpa using c53)
    show s.length - (k + ((k2 + 1))) < s.length - (k + k2)
    omega
   refine zaI<|zm<|zm<|zam<|O<|W.sr<|zR (v := s_v) X X<|zh X X ?_
   refine zi rfl rfl (zeq hO_0 rfl rfl (hk := (show _ = ((i : Nat) : Int) by omega)) (by omega) zV zak) ?_
   refine zid (k := 0) (j := i) st30 hO_0 rfl (by omega) rfl zV Tryz.zeroValue9 rfl (by decide) ?_
   intro o77 w78 _ e79 f80 st81
   subst e79
   refine Y<|W.sr<|zR (v := s_v) X X<|zh X X ?_
   refine zi rfl rfl (zhR hO_0 rfl rfl (hk := (show _ = ((i : Nat) : Int) by omega)) (by omega) zV zak) ?_
   refine zaf (v := (vtake s_v (i))) X X<|Y<|zw<|zK<|zd<|zd<|zK<|zd<|zb Tryz.results120 ?_
   refine ⟨h28, _, _, rfl, ((le3.trans s25.le).trans le29), st81, OSl.to f80 ?_⟩
   exact hD.fin (by omega)
  refine zy<|zO<|O<|zn<|zh X X<|zaM X X t_om X<|zq X X<|Y ?_
  have l82 := le3.trans s25.le
  refine ⟨⟨k + 1, [(b7, .cells cur9 9)], h24⟩, ⟨rfl, trivial⟩, ?_, ⟨l82, st26, ?_, ?_, ?_⟩, ?_⟩
  ·exact zau
  ·refine OSl.to (hO_0.up s25.le) ?_
   rfl
  ·exact ⟨by omega, by omega⟩
  ·exact comp_more hz hy hk.1 hc (by simpa using c27)
  show s.length - ((k + 1)) < s.length - k
  omega
 refine zaI<|zm<|zm<|zam<|O<|W.sr<|zR (v := s_v) X X<|zaf (v := s_v) X X<|Y<|zw<|zb Tryz.results120 ?_
 refine ⟨h2, _, _, rfl, le3, st4, OSl.to hO_0 ?_⟩
 rw [List.take_of_length_le (by omega)] at hc; exact hc.symm
theorem zie {h0 h : Heap} {w0 w : World} {rest : Own} {s : (List Int)} {s_o : List (Nat × Obj)} {s_v : Value} (s_f : OSl LInt 3 h s_v s s_o) (hb : s.length ≤ 281474976710656) (st0 : St h0 w0 h w (s_o :: rest)) : Calls Tryz.prog 95 #[s_v] w (fun e_ w' => ∃ h' s_o' v', e_ = .returned v' ∧ Le h h' ∧ St h0 w0 h' w' (s_o' :: rest) ∧ OSl LInt 3 h' v' (zcp s) s_o') := by
 refine zP (n := 61) Tryz.func95 X X X<|W.sr<|zcM X X<|Y<|zj<|W.sr<|zR (v := s_v) X X<|zfq s_f X zg X<|zaX X X X<|Y ?_
 refine zC rfl (fun c1 => ?_) (fun c1 => ?_)
 ·
  refine W.sr<|zR (v := s_v) X X<|zaf (v := s_v) X X<|Y<|zw<|zd<|zb Tryz.results95 ?_
  refine ⟨h, _, _, rfl, (Le.refl _), st0, OSl.to s_f ?_⟩
  exact (comp_short (by omega)).symm
 refine zy<|O<|zj<|W.sr<|zq X X<|Y<|zG ?_
 refine zax ([2, 3, 4, 5] ++ t_rg 10 50) (G := Nat × List (Nat × Obj) × Heap) (fun ⟨k, o_0, h2⟩ => [(3, .int .i64 (k : Int))]) (fun ⟨k, o_0, h2⟩ w' => Le h h2 ∧ St h0 w0 h2 w' (o_0 :: rest) ∧ (OSl LInt 3 h2 s_v (s) o_0) ∧ (1 ≤ k ∧ k ≤ s.length) ∧ (zcp (s.take k) = s.take k)) (fun ⟨k, o_0, h2⟩ => s.length - k) ⟨1, s_o, h⟩ ⟨rfl, trivial⟩ ⟨Le.refl _, st0, (OSl.to s_f (by rfl)), (by exact ⟨by omega, by omega⟩), (by exact comp_one (by omega))⟩ ?_
 rintro ⟨k, o_0, h2⟩ _ w5 ⟨le3, st4, hO_0, hk, hc⟩
 refine zj<|W.sr<|zh X X<|zR (v := s_v) X X<|zfq hO_0 X zg X<|zaX X X X<|Y ?_
 refine zC rfl (fun c6 => ?_) (fun c6 => ?_)
 ·
  refine zy<|O<|zj<|zG<|zj<|zbX Tryz.mixed t_kr (Cls h2 _) (Cls.drew st4)<|zfU (v := s_v) X X<|zde X X ?_
  obtain ⟨y, hy⟩ : ∃ y_, (s)[k]? = some y_ := t_ge (by omega)
  obtain ⟨b7, o8, cur9, _, e12, he10, hr_y, hc11⟩ := OSl.elem hO_0 hy
  subst e12
  obtain rfl := hr_y
  refine zbZ he10 X X (hk := X) (hu := zg) (hz := zl) X<|zH X X (fun _ hC => (zcN (j := 0) (hC.block (st4.get (k := 0) X)) hc11 X X X zz))<|zfU (v := s_v) X X<|zde X X<|u_sub X X t_om X ?_
  obtain ⟨z, hz⟩ : ∃ y_, (s)[k - 1]? = some y_ := t_ge (by omega)
  obtain ⟨b13, o14, cur15, _, e18, he16, hr_z, hc17⟩ := OSl.elem hO_0 hz
  obtain ⟨hb19, hc20⟩ : b7 = b13 ∧ cur9 = cur15 := by cases e18; exact ⟨rfl, rfl⟩
  subst hb19
  subst hc20
  obtain rfl := hr_z
  refine zH rfl rfl (fun _ _ => (zav he16 rfl rfl (hk := (show _ = ((k - 1 : Nat) : Int) by omega)) (hu := zg) (hz := zl))) ?_
  refine zH X X (fun _ hC => (zcN (j := 0) (hC.block (st4.get (k := 0) X)) hc17 X X X zz))<|u_eql X X X<|zbC ?_
  rintro w21 ⟨h22, s23⟩
  have st24 := st4.call0 s23
  refine O ?_
  refine zC rfl (fun c25 => ?_) (fun c25 => ?_)
  ·
   refine W.sr<|zR (v := s_v) X X<|zh X X ?_
   refine zi rfl rfl (zeq (hO_0.up s23.le) rfl rfl (hk := (show _ = ((k : Nat) : Int) by omega)) (by omega) zg zl) ?_
   refine zaf (v := (zfK 1 s_v (k))) X X<|Y<|zj<|W.sr<|zq X X<|Y<|zG ?_
   refine zax ([3, 5] ++ t_rg 29 25) (G := Nat × Nat × List Int × List (Nat × Obj) × Heap) (fun ⟨i, k2, ys, o_0, h26⟩ => [(3, .int .i64 (i : Int)), (5, .int .i64 (k2 : Int))]) (fun ⟨i, k2, ys, o_0, h26⟩ w' => Le h22 h26 ∧ St h0 w0 h26 w' (o_0 :: rest) ∧ (OSl LInt 3 h26 s_v (ys) o_0) ∧ (1 ≤ k2 ∧ k + k2 ≤ s.length ∧ ys.length = s.length ∧ i + 1 ≤ k + k2) ∧ (Comp s ys i (k + k2))) (fun ⟨i, k2, ys, o_0, h26⟩ => s.length - (k + k2)) ⟨k, 1, s, [(b7, .cells cur9 3)], h22⟩ ⟨rfl, rfl, trivial⟩ ⟨Le.refl _, st24, (OSl.to (hO_0.up s23.le) (by rfl)), (by exact ⟨by omega, by omega, rfl, by omega⟩), (by exact Comp.start hz hy hk.1 hc (by simpa using c25))⟩ ?_
   rintro ⟨i, k2, ys, o_0, h26⟩ _ w29 ⟨le27, st28, hO_0, hk2, hD⟩
   refine zj<|W.sr<|zh X X<|zR (v := (zfK 1 s_v (k))) X X<|zi X X (r_len_vdrop X (OSl.form hO_0) zg)<|zaX X X X<|Y ?_
   refine zC rfl (fun c30 => ?_) (fun c30 => ?_)
   ·
    refine zy<|O<|zj<|zG<|zj<|zbX Tryz.mixed t_kr (Cls h26 _) (Cls.drew st28)<|zfU (v := (zfK 1 s_v (k))) X X<|zde X X ?_
    obtain ⟨y2, hy2⟩ : ∃ y_, (ys)[k + k2]? = some y_ := t_ge (by omega)
    obtain ⟨b31, o32, cur33, _, e36, he34, hr_y2, hc35⟩ := OSl.elem hO_0 hy2
    subst e36
    obtain rfl := hr_y2
    refine zH rfl rfl (fun _ _ => (zav (Elem.drop' (k := k) (j := k2) he34 (by omega) (OSl.caps hO_0)) rfl rfl (hk := rfl) (hu := zg) (hz := zl))) ?_
    refine zH X X (fun _ hC => (zcN (j := 0) (hC.block (st28.get (k := 0) X)) hc35 X X X zz))<|zfU (v := (zfK 1 s_v (k))) X X<|zde X X<|u_sub X X t_om X ?_
    obtain ⟨z2, hz2⟩ : ∃ y_, (ys)[k + k2 - 1]? = some y_ := t_ge (by omega)
    obtain ⟨b37, o38, cur39, _, e42, he40, hr_z2, hc41⟩ := OSl.elem hO_0 hz2
    obtain ⟨hb43, hc44⟩ : b31 = b37 ∧ cur33 = cur39 := by cases e42; exact ⟨rfl, rfl⟩
    subst hb43
    subst hc44
    obtain rfl := hr_z2
    refine zH rfl rfl (fun _ _ => (zav (Elem.drop' (k := k) (j := k2 - 1) he40 (by omega) (OSl.caps hO_0)) rfl rfl (hk := (show _ = ((k2 - 1 : Nat) : Int) by omega)) (hu := zg) (hz := zl))) ?_
    refine zH X X (fun _ hC => (zcN (j := 0) (hC.block (st28.get (k := 0) X)) hc41 X X X zz))<|u_neq X X X<|zbC ?_
    rintro w45 ⟨h46, s47⟩
    have st48 := st28.call0 s47
    refine O ?_
    refine zC rfl (fun c49 => ?_) (fun c49 => ?_)
    ·
     refine W.sr<|zR (v := s_v) X X<|zh X X<|zR (v := (zfK 1 s_v (k))) X X<|zh X X ?_
     obtain ⟨b50, o51, cur52, _, e55, he53, hr_y2, hc54⟩ := OSl.elem (hO_0.up s47.le) hy2
     obtain ⟨hb56, hc57⟩ : b31 = b50 ∧ cur33 = cur52 := by cases e55; exact ⟨rfl, rfl⟩
     subst hb56
     subst hc57
     obtain rfl := hr_y2
     refine zi rfl rfl (zav (Elem.drop' (k := k) (j := k2) he53 (by omega) (OSl.caps (hO_0.up s47.le))) rfl rfl (hk := rfl) (hu := zg) (hz := zl)) ?_
     refine zi X X (zcN (j := 0) (st48.get (k := 0) X) hc54 X X X zz) ?_
     obtain ⟨u2, hu2⟩ : ∃ y_, (ys)[i]? = some y_ := t_ge (by omega)
     obtain ⟨b58, o59, cur60, _, e63, he61, hr_u2, hc62⟩ := OSl.elem (hO_0.up s47.le) hu2
     obtain ⟨hb64, hc65⟩ : b31 = b58 ∧ cur33 = cur60 := by cases e63; exact ⟨rfl, rfl⟩
     subst hb64
     subst hc65
     obtain rfl := hr_u2
     refine zi rfl rfl (zav he61 rfl rfl (hk := (show _ = ((i : Nat) : Int) by omega)) (hu := zg) (hz := zl)) ?_
     refine zdS (k := 0) st48 (hO_0.up s47.le) rfl (by omega) he61 rfl rfl (rfl) zl ?_
     intro o66 w67 _ e68 f69 st70
     subst e68
     refine Y<|zn<|zh X X<|zaM X X t_om X<|zq X X<|zp<|zO<|O<|zn<|zh X X<|zaM X X t_om X<|zq X X<|Y ?_
     refine ⟨⟨i + 1, k2 + 1, (ys.set i y2), o66, h46⟩, ⟨rfl, rfl, trivial⟩, ?_, ⟨(le27.trans s47.le), st70, ?_, ?_, ?_⟩, ?_⟩
     ·exact zau
     ·refine OSl.to f69 ?_
      rfl
     ·refine ⟨by omega, by omega, by first | (rw [List.length_set]; omega) | omega, by omega⟩
     ·exact hD.keep hy2 hz2 (by simpa using c49)
     show s.length - (k + ((k2 + 1))) < s.length - (k + k2)
     omega
    refine zy<|zO<|O<|zn<|zh X X<|zaM X X t_om X<|zq X X<|Y ?_
    refine ⟨⟨i, k2 + 1, ys, [(b31, .cells cur33 3)], h46⟩, ⟨rfl, rfl, trivial⟩, ?_, ⟨(le27.trans s47.le), st48, ?_, ?_, ?_⟩, ?_⟩
    ·exact zau
    ·refine OSl.to (hO_0.up s47.le) ?_
     rfl
    ·refine ⟨by omega, by omega, by first | (rw [List.length_set]; omega) | omega, by omega⟩
    ·exact hD.skip hy2 hz2 (by simpa using c49)
    show s.length - (k + ((k2 + 1))) < s.length - (k + k2)
    omega
   refine zaI<|zm<|zm<|zam<|O<|W.sr<|zR (v := s_v) X X<|zh X X ?_
   refine zi rfl rfl (zeq hO_0 rfl rfl (hk := (show _ = ((i : Nat) : Int) by omega)) (by omega) zg zl) ?_
   refine zid (k := 0) (j := i) st28 hO_0 rfl (by omega) rfl zg Tryz.zeroValue3 rfl (by decide) ?_
   intro o71 w72 _ e73 f74 st75
   subst e73
   refine Y<|W.sr<|zR (v := s_v) X X<|zh X X ?_
   refine zi rfl rfl (zhR hO_0 rfl rfl (hk := (show _ = ((i : Nat) : Int) by omega)) (by omega) zg zl) ?_
   refine zaf (v := (vtake s_v (i))) X X<|Y<|zw<|zK<|zd<|zd<|zK<|zd<|zb Tryz.results95 ?_
   refine ⟨h26, _, _, rfl, ((le3.trans s23.le).trans le27), st75, OSl.to f74 ?_⟩
   exact hD.fin (by omega)
  refine zy<|zO<|O<|zn<|zh X X<|zaM X X t_om X<|zq X X<|Y ?_
  have l76 := le3.trans s23.le
  refine ⟨⟨k + 1, [(b7, .cells cur9 3)], h22⟩, ⟨rfl, trivial⟩, ?_, ⟨l76, st24, ?_, ?_, ?_⟩, ?_⟩
  ·exact zau
  ·refine OSl.to (hO_0.up s23.le) ?_
   rfl
  ·exact ⟨by omega, by omega⟩
  ·exact comp_more hz hy hk.1 hc (by simpa using c25)
  show s.length - ((k + 1)) < s.length - k
  omega
 refine zaI<|zm<|zm<|zam<|O<|W.sr<|zR (v := s_v) X X<|zaf (v := s_v) X X<|Y<|zw<|zb Tryz.results95 ?_
 refine ⟨h2, _, _, rfl, le3, st4, OSl.to hO_0 ?_⟩
 rw [List.take_of_length_le (by omega)] at hc; exact hc.symm
end Go.Pk

namespace Go.Pk
open Go Go.RowKit Go.Proofs
end Go.Pk

namespace Go.Pk
open Go Go.RowKit Go.Proofs
end Go.Pk

namespace Go.Pk
open Go Go.RowKit Go.Proofs
end Go.Pk

namespace Go.Pk
open Go Go.RowKit Go.Proofs
theorem c_stem_Add {h : Heap} {w : World} (hs : Sub h w) {t : Text} {t_v0 : Value} (t_f0 : Sl LChapter h t_v0 t.chapters) {x : Lexicon} {x_v0 : Value} (x_f0 : Sl LRule h x_v0 x.rules) {x_v1 : Value} (x_f1 : Sl LDecision h x_v1 x.decisions) {d : Decision} (d_l2 : 0 ≤ d.kind ∧ d.kind ≤ 255) (d_l3 : d.form.length ≤ 281474976710656) (d_l7 : d.to.stem.length ≤ 281474976710656) (d_l8 : 0 ≤ d.to.mark ∧ d.to.mark ≤ 255) (K1 : Cells h 1 0 Tryz.glob1) : Calls Tryz.prog 80 #[.agg #[t_v0], .agg #[x_v0, x_v1], .agg #[.int .i64 d.number, .int .u8 d.kind, strV d.form, .int .i64 d.at_.chapter, .int .i64 d.at_.line, .int .i64 d.at_.word, strV d.to.stem, .int .u8 d.to.mark, .int .i64 d.of_]] w (fun e_ w' => ∃ h' v0_ v1_ o0_ o1_, e_ = .returned (.tuple #[.agg #[v0_, v1_], .int .i64 (addE t x d)]) ∧ Le h h' ∧ St h w h' w' [o0_, o1_] ∧ OSl LRule 68 h' v0_ (((addN t x d)).rules) o0_ ∧ OSl LDecision 74 h' v1_ (((addN t x d)).decisions) o1_) := by
 refine zP (n := 41) Tryz.func80 X X X<|have st0:=t_s0 hs;have t_f0_b:=t_f0.le;have x_f0_b:=x_f0.le;have x_f1_b:=x_f1.le;W.sr<|zJ st0 (cs := [t_v0]) X X X<|fun b1 w2 h3 le4 hc5 st6=>zJ st6 (cs := [x_v0, x_v1]) X X X<|fun b7 w8 h9 le10 hc11 st12=>zJ st12 (cs := [.int .i64 (d.number), .int .u8 (d.kind), strV (d.form), .int .i64 (d.at_.chapter), .int .i64 (d.at_.line), .int .i64 (d.at_.word), strV (d.to.stem), .int .u8 (d.to.mark), .int .i64 (d.of_)]) X X X<|fun b13 w14 h15 le16 hc17 st18=>zQ st18 zdP X X<|fun b19 w20 st21=>zq X X<|Y<|zj<|W.sr<|zr st21.sub (hc5.up (le10.trans le16)) X zbk zaA X X<|zr st21.sub (hc11.up le16) X zbL zaC X X<|have l22:=(le4.trans le10).trans le16;ze st21 X X X Tryz.call96 X (zhD st21.sub (t := t) (t_f0.up l22) (x := x) (x_f0.up l22) (x_f1.up l22) (K1.up l22))<|fun r23 w24 h25 le26 st27 q28=> ?_
 obtain rfl := q28
 refine zq X X<|Y<|W.sr<|zh X X<|zcf X X X<|Y ?_
 refine zC rfl (fun c29 => ?_) (fun c29 => ?_)
 ·
  refine W.sr<|zi X X (zbq (cs := [(.slice none 0 0), (.slice none 0 0)]) t_kr)<|zh X X<|zI st27 (k := 0) X X X (za X (za X zan)) zaC X X X<|fun w30 st31=>zq X X<|Y<|zw<|zd<|zcE Tryz.results80 X zbL zaC X (st31.get (k := 0) X) ?_
  have st32 := st31.snoc
  have f33 := OSl.nil LRule 68 h25
  have st34 := st32.snoc
  have f35 := OSl.nil LDecision 74 h25
  refine ⟨h25, (.slice none 0 0), (.slice none 0 0), _, _, congrArg Ending.returned (tup2 rfl (zah ?_)), (l22.trans le26), st34.sublist (own' := [[], []]) (.cons _ (.cons_cons _ (.cons_cons _ (.slnil)))), OSl.to f33 ?_, OSl.to f35 ?_⟩
  all_goals (obtain ⟨q1, q2⟩ := addE_bad (d := d) c29)
  ·exact q1.symm
  ·rw [q2]; rfl
  rw [q2]; rfl
 refine zy<|O<|zj<|zj ?_
 have hx0 : zaR t x = 0 := by simpa using c29
 have hdl := zhV hx0
 have hrl := lexicon_12 hx0
 refine zn<|E X zag X zbN X X<|U (j := 1) st27.sub (hc11.up (le16.trans le26)) X X X zcr X<|have l36:=l22.trans le26;zaH (x_f1.up l36) X zaG X<|zdd X X X<|Y ?_
 refine zC rfl (fun c37 => ?_) (fun c37 => ?_)
 ·
  refine W.sr<|zi X X (zbq (cs := [(.slice none 0 0), (.slice none 0 0)]) t_kr)<|zI st27 (k := 0) X X X (za X (za X zan)) zaC X X X<|fun w38 st39=>zq X X<|Y<|zw<|zd<|zcE Tryz.results80 X zbL zaC X (st39.get (k := 0) X) ?_
  have st40 := st39.snoc
  have f41 := OSl.nil LRule 68 h25
  have st42 := st40.snoc
  have f43 := OSl.nil LDecision 74 h25
  refine ⟨h25, (.slice none 0 0), (.slice none 0 0), _, _, congrArg Ending.returned (tup2 rfl (zah ?_)), l36, st42.sublist (own' := [[], []]) (.cons _ (.cons_cons _ (.cons_cons _ (.slnil)))), OSl.to f41 ?_, OSl.to f43 ?_⟩
  all_goals (obtain ⟨q1, q2⟩ := addE_full (d := d) hx0 (by have q := c37; omega))
  ·exact q1.symm
  ·rw [q2]; rfl
  rw [q2]; rfl
 refine zy<|O<|zj<|zbg (er := ([], [], [], [10], 4)) (dsts := [22, 23, 24, 25, 26, 27, 28, 29, 30, 31, 9]) st27 Tryz.mixed<|zc 0 [] X t_kr t_kr X X (fun hD wD τD hL hS hO  => (zB X zag X zcq X))<|zc 1 [0] X t_kr t_kr X X (fun hD wD τD hL hS hO _ _ => (zf (j := 0) (hL.sub hS) (hc11.up (le16.trans le26)) X X X zcZ))<|zbO<|zc 3 [] X t_kr t_kr X X (fun hD wD τD hL hS hO  => (zB X zag X zbN X))<|zc 4 [0] X t_kr t_kr X X (fun hD wD τD hL hS hO _ _ => (zf (j := 1) (hL.sub hS) (hc11.up (le16.trans le26)) X X X zcr))<|zbO<|zc 6 [] X t_kr t_kr X X (fun hD wD τD hL hS hO  => (zat (hL.sub hS) (hc17.up le26) X zaY zX X)) ?_
 refine zas 7 (.res (fun h' res_ => Sl LDecision h' res_ ([d])) (fun _ _ _ hl f => f.up hl)) [0] rfl t_kr t_kr ?_ ?_
 ·
  intro hD wD τD hL hS hO _ _
  have st44 := St.start hS
  refine zac (L := LDecision) (xs := [d]) (cs := [.int .i64 (d.number), .int .u8 (d.kind), strV (d.form), .int .i64 (d.at_.chapter), .int .i64 (d.at_.line), .int .i64 (d.at_.word), strV (d.to.stem), .int .u8 (d.to.mark), .int .i64 (d.of_)]) st44 (Enc.cons (L := LDecision) (vs := [.int .i64 (d.number), .int .u8 (d.kind), strV (d.form), .int .i64 (d.at_.chapter), .int .i64 (d.at_.line), .int .i64 (d.at_.word), strV (d.to.stem), .int .u8 (d.to.mark), .int .i64 (d.of_)]) (x := d) (h := hD) (⟨rfl, t_u8, zbr, zbr, t_u8⟩) Enc.nil) X X X zaG Tryz.info74 X X X t_kr<|fun v45 w46 h49 le50 f47 st48=> ?_
  exact zp ⟨_, _, rfl, st48, _, rfl, f47⟩
 refine zbO<|zbO<|ziB zdP X<|zbO<|zbP X X X X X X ⟨t_kr, X, t_kr, X, t_kr, X, X, t_kr, (zbp X (zbp X (zbp X (zbp X (zbp X zcu)))))⟩<|fun hE52 w53 _ ls58 hl57 le54 st55 _ _=> ?_
 obtain ⟨oL56, rfl⟩ := zhW hl57
 have l59 := l36.trans le54
 refine zay rfl rfl (zaV rfl Tryz.call76 rfl) ((zeb st55.sub (x_f0.up l59) (by omega)).mono ?_)
 rintro _ w61 ⟨h62, v60, o65, rfl, le63, s67, f66⟩
 refine ⟨_, rfl, ?_⟩
 have st64 := st55.call s67
 refine zp ⟨_, rfl, _, [[(b19, .cells (List.toArray [(.slice none 0 0), (.slice none 0 0)]) 28)]], [o65], le63, st64, ?_⟩
 intro hE69 w70 _ ls75 hl74 le71 st72 _ _
 obtain ⟨oL73, rfl⟩ := zhW hl74
 have l76 := (l59.trans le63).trans le71
 refine zay rfl rfl (zaV rfl Tryz.call77 rfl) ((zcC st72.sub (x_f1.up l76) (by omega)).mono ?_)
 rintro _ w78 ⟨h79, v77, o82, rfl, le80, s84, f83⟩
 refine ⟨_, rfl, ?_⟩
 have st81 := st72.call s84
 refine zp ⟨_, rfl, _, [[(b19, .cells (List.toArray [(.slice none 0 0), (.slice none 0 0)]) 28)]], [o65, o82], le80, st81, ?_⟩
 intro hE86 w87 _ ls92 hl91 le88 st89 gv7_0x85 gf7_0x85
 obtain ⟨oL90, rfl⟩ := zhW hl91
 refine zbB (k := 3) (nb := 88) st89 (f83.up le88) rfl gf7_0x85 rfl rfl rfl zaG Tryz.info74 rfl rfl rfl (by decide) rfl (by first | omega | (simp only [List.length_append, List.length_cons, List.length_nil]; omega)) (by first | omega | (simp only [List.length_append, List.length_cons, List.length_nil]; omega)) ?_
 intro v93 o94 w95 _ e96 f97 st98
 subst e96
 refine zp ⟨_, rfl, _, [[(b19, .cells (List.toArray [(.slice none 0 0), (.slice none 0 0)]) 28)]], [o65, o94], Le.refl _, st98, ?_⟩
 intro hE100 w101 _ ls106 hl105 le102 st103 
 obtain ⟨oL104, rfl⟩ := zhW hl105
 refine zi rfl rfl (zbq (cs := [v60, v93]) (by obtain ⟨_, _, rfl⟩ := OSl.form f66; obtain ⟨_, _, rfl⟩ := OSl.form f97; kernel_rfl)) ?_
 refine zp ⟨_, rfl, _, [[(b19, .cells (List.toArray [(.slice none 0 0), (.slice none 0 0)]) 28)]], [o65, o94], Le.refl _, st103, ?_⟩
 intro b108
 intro hE109 w110 _ le111 st112 _ _ _ _ _ _ _ _ _ _ gv7_0x107 gf7_0x107
 refine zI st112 (k := 1) X X X (za f66.one (za f97.one zan)) zaC X X X<|fun w113 st114=> ?_
 obtain ⟨h115, le116, hb117, st119⟩ := st114.freeze (k := 1) rfl
 have hc118 := Cells.of hb117
 refine zp ⟨undef, rfl, _, _, le116, st119, ?_⟩
 intro hE120 w121 _ le122 st123 _ _ _ _ _ _ _ _ _ _ gv7_0x124 gf7_0x124
 refine AllDeps.fin X<|O<|zj<|W.sr<|have l125:=((((((((((le10.trans le16).trans le26).trans le54).trans le63).trans le71).trans le80).trans le88).trans le102).trans le111).trans le116).trans le122;zr st123.sub (hc5.up l125) X zbk zaA X X<|zr st123.sub (hc118.up le122) X zbL zaC X X ?_
 have ha126 := heapOf_le st123.sub
 have l128 := (((((le71.trans le80).trans le88).trans le102).trans le111).trans le116).trans le122
 have f127 := (OSl.whole (k := 2) st123 (f66.up l128) rfl t_om).2
 have l130 := ((le102.trans le111).trans le116).trans le122
 have f129 := (OSl.whole (k := 3) st123 (f97.up l130) rfl t_om).2
 have l131 := ((((((l76.trans le80).trans le88).trans le102).trans le111).trans le116).trans le122).trans ha126
 refine ze st123 X X X Tryz.call96 X (Rets.thaw st123.sub (zhD (zfX _) (t := t) (t_f0.up l131) (x := (Lexicon.mk ((x.rules)) (((x.decisions)) ++ ([d])))) f127 f129 (K1.up l131)))<|fun r132 w133 h134 le135 st136 q137=> ?_
 obtain rfl := q137
 refine zcf X X X<|Y ?_
 refine zC rfl (fun c138 => ?_) (fun c138 => ?_)
 ·
  refine W.sr<|zi X X (zbq (cs := [(.slice none 0 0), (.slice none 0 0)]) t_kr)<|zI st136 (k := 0) X X X (za X (za X zan)) zaC X X X<|fun w139 st140=>zq X X<|Y<|zw<|zd<|zcE Tryz.results80 X zbL zaC X (st140.get (k := 0) X) ?_
  have st141 := st140.snoc
  have f142 := OSl.nil LRule 68 h134
  have st143 := st141.snoc
  have f144 := OSl.nil LDecision 74 h134
  refine ⟨h134, (.slice none 0 0), (.slice none 0 0), _, _, congrArg Ending.returned (tup2 rfl (zah ?_)), (((((((l76.trans le80).trans le88).trans le102).trans le111).trans le116).trans le122).trans le135), st143.sublist (own' := [[], []]) (.cons _ (.cons _ (.cons _ (.cons _ (.cons_cons _ (.cons_cons _ (.slnil))))))), OSl.to f142 ?_, OSl.to f144 ?_⟩
  all_goals (obtain ⟨q1, q2⟩ := addE_err (d := d) hx0 (by have q := c37; omega) c138)
  ·exact q1.symm
  ·rw [q2]; rfl
  rw [q2]; rfl
 refine zy<|O<|zj ?_
 have hx1 : zaR t (moreX x d) = 0 := by simpa [moreX] using c138
 refine zn<|E X zag X zbN X X<|U (j := 1) st136.sub (hc118.up (le122.trans le135)) X X X zcr X ?_
 have con := sortFunc (L := LDecision) (T := 74) Tryz.sort_api_Decision zaY zX (by decide) (fun x : Decision => [.int .i64 x.number, .int .u8 x.kind, strV x.form, .int .i64 x.at_.chapter, .int .i64 x.at_.line, .int .i64 x.at_.word, strV x.to.stem, .int .u8 x.to.mark, .int .i64 x.of_]) (by rintro _ _ _ ⟨rfl, _⟩; rfl) (fun a b : Decision => a.number - b.number) (swo_asc _) (g := 112) (caps := []) (i := 3) st136 (f97.up (l130.trans le135)) rfl (by simp only [List.length_append, List.length_cons, List.length_nil]; omega) Tryz.call112 ?_
 rotate_left
 ·intro a_ ha_ b_ hb_ w_ hs_
  obtain ⟨_, rfl, p0, p1, p2, p3⟩ := OSl.memR (f97.up (l130.trans le135)) ha_
  obtain ⟨_, rfl, q0, q1, q2, q3⟩ := OSl.memR (f97.up (l130.trans le135)) hb_
  simp only [big] at *
  exact c_stem_Add_1 hs_ (a := a_) p0 p1 p2 p3 (b := b_) q0 q1 q2 q3 (by have q := ((zhT hx1).2 a_ ha_); omega) (by have q := ((zhT hx1).2 b_ hb_); omega)
 refine zay rfl rfl (zaV rfl Tryz.call111 rfl) (con.mono ?_)
 rintro _ w145 ⟨rfl, ys146, o147, _, e148, hp149, hw150, f151, st152⟩
 subst e148
 refine ⟨_, rfl, ?_⟩
 clear con
 have f153 := OSl.to f151 (show ys146 = (ascD (x.decisions ++ [d])) from ascD_eq hp149 (hw150.imp fun h => by omega) (zhT hx1).1)
 refine Y<|W.sr<|zr st152.sub (hc118.up (le122.trans le135)) X zbL zaC X X<|zI st152 (k := 0) X X X (za f66.one (za f153.one zan)) zaC X X X<|fun w154 st155=>zq X X<|Y<|zw<|zcE Tryz.results80 X zbL zaC X (st155.get (k := 0) X) ?_
 refine ⟨h134, v60, v93, _, _, congrArg Ending.returned (tup2 rfl (zah ?_)), (((((((l76.trans le80).trans le88).trans le102).trans le111).trans le116).trans le122).trans le135), st155.sublist (own' := [o65, o147]) (.cons _ (.cons _ (.cons_cons _ (.cons_cons _ (.slnil))))), OSl.to (f66.up (l128.trans le135)) ?_, OSl.to f153 ?_⟩
 all_goals (obtain ⟨q1, q2⟩ := addE_ok (d := d) hx0 (by have q := c37; omega) hx1)
 ·exact q1.symm
 ·rw [q2]; rfl
 rw [q2]; rfl
end Go.Pk

namespace Go.Pk
open Go Go.RowKit Go.Proofs
end Go.Pk
