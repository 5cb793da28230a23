/- A PART OF THE PROOF: contracts of functions, each walked once (much of it printed by a program of the author's own). -/
import Derived.Test.YtfpiiheehdedmaaGreatDoorT14
import Derived.Test.YtfpiiheehdedmaaGreatDoorT2
set_option linter.unusedSimpArgs false
set_option linter.unusedVariables false
set_option maxRecDepth 4000
namespace Go.Pk
open Go Go.RowKit Go.Proofs
set_option maxHeartbeats 4000000 in
theorem ziP {h : Heap} {w : World} (hs : Sub h w) {p : Poll} {p_v0 : Value} (p_f0 : Sl LChapter h p_v0 p.text.chapters) {p_v1 : Value} (p_f1 : Sl LRule h p_v1 p.lexicon.rules) {p_v2 : Value} (p_f2 : Sl LDecision h p_v2 p.lexicon.decisions) {p_v3 : Value} (p_f3 : Sl LQuestion h p_v3 p.questions) {p_v4 : Value} (p_f4 : Sl LVoter h p_v4 p.voters) (turn : Int) (turn_l : 0 ≤ turn ∧ turn ≤ 255) (K1 : Cells h 1 0 Tryz.glob1) (K0 : Cells h 0 0 Tryz.glob0) : Calls Tryz.prog 12 #[.agg #[p_v0, p_v1, p_v2, p_v3, p_v4], .int .u8 turn] w (Rets h w (fun _ _ res_ => res_ = .bool (true))) := by
 refine zP (n := 184) Tryz.func12 X X X<|have st0:=t_s0 hs;have p_f0_b:=p_f0.le;have p_f1_b:=p_f1.le;have p_f2_b:=p_f2.le;have p_f3_b:=p_f3.le;have p_f4_b:=p_f4.le;W.sr<|zJ st0 (cs := [p_v0, p_v1, p_v2, p_v3, p_v4]) X X X<|fun b1 w2 h3 le4 hc5 st6=>zF X X<|Y<|W.sr<|ze st6 X X X Tryz.call33 X (zfJ st6.sub (K1.up le4) (K0.up le4))<|fun r7 w8 h9 le10 st11 q12=> ?_
 obtain rfl := q12
 refine zF X X<|Y<|zj<|W.sr<|zr st11.sub (hc5.up le10) X zaE zad X X<|have l13:=le4.trans le10;ze st11 X X X Tryz.call41 X (zdh st11.sub (p := p) (p_f0.up l13) (p_f1.up l13) (p_f2.up l13) (p_f3.up l13) (p_f4.up l13))<|fun r14 w15 h16 le17 st18 q19=> ?_
 obtain rfl := q19
 refine zbl X X<|zS X X ?_
 refine zaw (d := 30) rfl (fun g20 => ?_) (fun g20 => ?_)
 ·
  refine M X X X X X<|M X X X X X<|M X X X X X<|M X X X X X<|zT (v := (.bool _)) X X X<|zS X X<|M X X X X X<|M X X X X X<|zT (v := (.bool _)) X X X<|Y ?_
  refine zae rfl (fun c21 => ?_) (fun c21 => ?_)
  ·
   refine W.sr<|zS X X<|zF X X<|Y<|zw<|zd<|zb Tryz.results12 ?_
   refine ⟨h16, _, rfl, st18.done, ?_⟩
   refine zx ?_
   first | rfl | (simp_all; done)
  cases c21
 refine Z X X X<|E X zt X zaL X X<|Z X X X<|U (j := 4) st18.sub (hc5.up (le10.trans le17)) X X X zbj X<|Z X X X<|have l22:=l13.trans le17;zaH (p_f4.up l22) X zaa X<|Z X X X<|zdd X X X<|zN (v := (.bool _)) X X X<|zS X X ?_
 refine zY (d := 36) rfl (fun g23 => ?_) (fun g23 => ?_)
 ·
  refine M X X X X X<|M X X X X X<|zT (v := (.bool _)) X X X<|Y ?_
  refine zae rfl (fun c24 => ?_) (fun c24 => ?_)
  ·
   refine W.sr<|zS X X<|zF X X<|Y<|zw<|zd<|zb Tryz.results12 ?_
   refine ⟨h16, _, rfl, st18.done, ?_⟩
   refine zx ?_
   first | rfl | (simp_all; done)
  cases c24
 refine Z X X X<|zS X X<|Z X X X<|zbl X X<|zN (v := (.bool _)) X X X<|Y ?_
 refine zae rfl (fun c25 => ?_) (fun c25 => ?_)
 ·
  cases c25
 refine zy<|O<|zj ?_
 obtain ⟨hsm, hk1⟩ : zdV p = true ∧ zbM p = 0 := by simpa using g20
 have hpb := (zcb hk1).2
 have hpl := zcO hpb
 have hn0 : 0 < p.voters.length := by omega
 obtain ⟨K, hK⟩ : ∃ k_ : Nat, k_ = turn.toNat % p.voters.length := ⟨_, rfl⟩
 have hKe : turn.tmod (p.voters.length : Int) = (K : Int) := by rw [hK]; exact tmod_nat (by omega)
 have hKl : K < p.voters.length := by rw [hK]; exact Nat.mod_lt _ hn0
 obtain ⟨v0, hv0⟩ : ∃ q_, p.voters[K]? = some q_ := ⟨_, List.getElem?_eq_getElem hKl⟩
 refine zn<|zr st18.sub (hc5.up (le10.trans le17)) X zaE zad X X ?_
 refine zay rfl rfl (zaV rfl Tryz.call16 rfl) ((zdO st18.sub (p := p) (p_f0.up l22) (p_f1.up l22) (p_f2.up l22) (p_f3.up l22) (p_f4.up l22) (by exact hsm)).mono ?_)
 rintro _ w26 ⟨h27, v31, v33, v35, v37, v39, o40, rfl, le28, s30, f32, f34, f36, f38, f41⟩
 refine ⟨_, rfl, ?_⟩
 have st29 := st18.call s30
 refine zQ st29 zdu X X<|fun b42 w43 st44=>zI st44 (k := 1) X X X (za f32.one (za f34.one (za f36.one (za f38.one (za f41.one zan))))) zad X X X<|fun w45 st46=> ?_
 obtain ⟨h47, le48, hb49, st51⟩ := st46.freeze (k := 1) rfl
 have hc50 := Cells.of hb49
 refine Y<|W.sr<|zh X X ?_
 refine zi rfl rfl (zfW rfl rfl zbU (IntWalk.i64_in _ (by omega))) ?_
 refine E X zt X zaL X X<|have l52:=((le10.trans le17).trans le28).trans le48;U (j := 4) st51.sub (hc5.up l52) X X X zbj X<|have l53:=(l22.trans le28).trans le48;zaH (p_f4.up l53) X zaa X<|zi X X (r_rem X X t_om)<|zq X X<|Y<|zj<|W.sr<|E X zt X zaL X X<|U (j := 4) st51.sub hc50 X X X zbj X<|zfq (f41.up le48) X zaa X<|zh X X<|Y<|zG ?_
 refine zax ([8] ++ t_rg 52 19) (G := Nat × List Voter × List (Nat × Obj) × Heap) (fun ⟨i, ys, o_k0, h54⟩ => [(52, .int .i64 (i : Int))]) (fun ⟨i, ys, o_k0, h54⟩ w' => Le h47 h54 ∧ St h w h54 w' [o_k0, []] ∧ (OSl LVoter 79 h54 v39 (ys) o_k0) ∧ (i ≤ p.voters.length) ∧ (RotN p.voters ys K i)) (fun ⟨i, ys, o_k0, h54⟩ => p.voters.length - i) ⟨0, p.voters, o40, h47⟩ ⟨rfl, trivial⟩ ⟨Le.refl _, st51, (OSl.to (f41.up le48) (by rfl)), zaW, (by exact ⟨rfl, fun _ h_ => by omega⟩)⟩ ?_
 rintro ⟨i, ys, o_k0, h54⟩ _ w57 ⟨le55, st56, hO_k0, hi, hrot⟩
 have hyl0 := hrot.1
 refine W.sr<|zaX X X X<|Y<|zj ?_
 refine zC rfl (fun c58 => ?_) (fun c58 => ?_)
 ·
  refine zy<|O<|zj<|zG<|W.sr<|zh X X<|zq X X<|Y ?_
  have l59 := l53.trans le55
  obtain ⟨v, hv⟩ : ∃ y_, (p.voters)[((i + K) % p.voters.length)]? = some y_ := t_ge (by exact Nat.mod_lt _ hn0)
  obtain ⟨b60, o61, _, he63, hc62, hr_v⟩ := Sl.elem (p_f4.up l59) hv
  obtain ⟨v64, rfl, f65⟩ := hr_v
  have f65_b := f65.le
  obtain ⟨y, hy⟩ : ∃ y_, (ys)[i]? = some y_ := t_ge (by have q_ := hrot.1; omega)
  obtain ⟨b66, o67, cur68, _, e71, he69, hr_y, hc70⟩ := OSl.elem hO_k0 hy
  subst e71
  obtain ⟨v72, rfl, f73⟩ := hr_y
  have f73_b := f73.le
  refine zbg (er := ([], [], [], [], 0)) (dsts := [55, 56, 57, 58, 59, 60, 61, 62, 63, 64, 65, 66, 67, 68, 69]) st56 Tryz.mixed<|zc 0 [] X t_kr t_kr X X (fun hD wD τD hL hS hO  => (zB X zt X zaL X))<|zc 1 [0] X t_kr t_kr X X (fun hD wD τD hL hS hO _ _ => (zf (j := 4) (hL.sub hS) (hc50.up le55) X X X zbj))<|zc 2 [] X t_kr t_kr X X (fun hD wD τD hL hS hO  => (zel X))<|zc 3 [] X t_kr t_kr X X (fun hD wD τD hL hS hO  => (zB X zt X zaL X))<|zc 4 [0] X t_kr t_kr X X (fun hD wD τD hL hS hO _ _ => (zf (j := 4) (hL.sub hS) (hc5.up (l52.trans le55)) X X X zbj))<|zc 5 [] X t_kr t_kr X X (fun hD wD τD hL hS hO  => (zel X))<|zc 6 [] X t_kr t_kr X X (fun hD wD τD hL hS hO  => (zel X)) ?_
  refine zc 7 [1, 0] rfl t_kr t_kr rfl rfl (fun hD wD τD hL hS hO _ _ _ _ => (zhs rfl rfl (by rw [hKe]; omega))) ?_
  refine zc 8 [] X t_kr t_kr X X (fun hD wD τD hL hS hO  => (zB X zt X zaL X))<|zc 9 [0] X t_kr t_kr X X (fun hD wD τD hL hS hO _ _ => (zf (j := 4) (hL.sub hS) (hc5.up (l52.trans le55)) X X X zbj))<|zc 10 [0] X t_kr t_kr X X (fun hD wD τD hL hS hO _ _ => (zhS (p_f4.up l59) X zaa))<|zc 11 [3, 0] X t_kr t_kr X X (fun hD wD τD hL hS hO _ _ _ _ => (r_rem X X t_om)) ?_
  refine zc 12 [7, 0] rfl t_kr t_kr rfl rfl (fun hD wD τD hL hS hO _ _ _ _ => (zav he63 rfl rfl (hk := (show _ = ((((i + K) % p.voters.length) : Nat) : Int) by rw [hKe]; exact add_tmod _ _ _)) (hu := zaa) (hz := zaT))) ?_
  refine zc 13 [0] X t_kr t_kr X X (fun hD wD τD hL hS hO _ _ => (zat (hL.sub hS) hc62 X zdU zaT X)) ?_
  refine zc 14 [13, 12, 11, 10, 9, 8, 7, 6, 5, 4, 3, 2, 1, 0] rfl t_kr t_kr rfl rfl (fun hD wD τD hL hS hO _ _ _ _ _ _ _ _ _ _ _ _ _ _ _ _ _ _ _ _ _ _ _ _ _ _ _ _ => (zav he69 rfl rfl (hk := (show _ = ((i : Nat) : Int) by rfl)) (hu := zaa) (hz := zaT))) ?_
  refine zbO<|zbP X X X X X X ⟨t_kr, X, t_kr, X, t_kr, X, X, t_kr, (zbp X zcu)⟩<|fun hE75 w76 _ le77 st78 _ _ _ _ _ _ _ _ _ _ _ _ _ _ _ _ _ _ _ _ _ _ _ _ _ _ _ _ _ _=> ?_
  refine OpsL.storeEl (k := 0) st78 (hO_k0.up le77) rfl (by omega) he69 rfl rfl (⟨_, rfl, (f65.up le77)⟩) zaT ?_
  intro o79 w80 _ e81 f82 st83
  subst e81
  refine zp ⟨undef, rfl, _, _, Le.refl _, st83, ?_⟩
  intro hE84 w85 _ le86 st87 _ _ _ _ _ _ _ _ _ _ _ _ _ _ _ _ _ _ _ _ _ _ _ _ _ _ _ _ _ _
  refine AllDeps.fin X<|zO<|O<|zn<|zaM X X t_om X<|zh X X<|Y ?_
  refine ⟨⟨i + 1, (ys.set i v), o79, hE84⟩, ⟨rfl, trivial⟩, ?_, ⟨((le55.trans le77).trans le86), st87, ?_, ?_, ?_⟩, ?_⟩
  ·exact zau
  ·refine OSl.to (f82.up le86) ?_
   rfl
  ·first | omega | (simp; omega)
  ·exact hrot.step (by omega) hv
  show p.voters.length - ((i + 1)) < p.voters.length - i
  omega
 refine zaI<|zm<|zm<|zam<|O<|zj ?_
 have hro := rot_eq (hrot.perm (by have q_ := hrot.1; omega) hKl)
 have hcx := hro.ck.trans hk1
 have hyl := hrot.1
 refine zn<|zr st56.sub (hc5.up (l52.trans le55)) X zaE zad X X ?_
 have l89 := l53.trans le55
 have con := (zeA st56.sub (p := p) (p_f0.up l89) (p_f1.up l89) (p_f2.up l89) (p_f3.up l89) (p_f4.up l89) (K1.up l89) (K0.up l89))
 rw [if_pos hk1, hk1] at con
 refine ze st56 X X X Tryz.call34 X con<|fun r90 w91 h92 le93 st94 q95=> ?_
 obtain rfl := q95
 clear con
 refine zbY X X<|zA (v := (.int _ _)) X X X<|zA (v := (.int _ _)) X X X<|zq X X<|zq X X<|Y<|W.sr<|zr st94.sub (hc50.up (le55.trans le93)) X zaE zad X X ?_
 obtain ⟨h96, le97, f98, st99⟩ := OSl.freeze (k := 0) st94 (hO_k0.up le93) rfl (by first | exact zhf p | exact zhe p | (have q_ := hrot.1; omega) | omega)
 have l100 := ((le48.trans le55).trans le93).trans le97
 have l101 := (l89.trans le93).trans le97
 have con := (zeA st99.sub (p := (rotP p ys)) (f32.up l100) (f34.up l100) (f36.up l100) (f38.up l100) f98 (K1.up l101) (K0.up l101))
 rw [if_pos hcx, hcx, hro.ts] at con
 refine ze st99 X X X Tryz.call34 X con<|fun r102 w103 h104 le105 st106 q107=> ?_
 obtain rfl := q107
 clear con
 refine zbY X X<|zA (v := (.int _ _)) X X X<|zA (v := (.int _ _)) X X X<|zq X X<|zq X X<|Y<|W.sr<|have l108:=(((l52.trans le55).trans le93).trans le97).trans le105;zr st106.sub (hc5.up l108) X zaE zad X X<|have l109:=l101.trans le105;ze st106 X X X zhk X (zdx st106.sub (p := p) (p_f0.up l109) (p_f1.up l109) (p_f2.up l109) (p_f3.up l109) (p_f4.up l109) (K1.up l109) (K0.up l109))<|fun r110 w111 h112 le113 st114 q115=> ?_
 obtain ⟨v116, rfl, f117⟩ := q115
 have f117_b := f117.le
 refine zbY X X<|zA (v := v116) X X X<|zA (v := (.int _ _)) X X X<|zaf (v := v116) X X<|zq X X<|Y<|W.sr<|have l118:=(((le55.trans le93).trans le97).trans le105).trans le113;zr st114.sub (hc50.up l118) X zaE zad X X ?_
 have l119 := l109.trans le113
 have con := (zdx st114.sub (p := (rotP p ys)) (f32.up ((l100.trans le105).trans le113)) (f34.up ((l100.trans le105).trans le113)) (f36.up ((l100.trans le105).trans le113)) (f38.up ((l100.trans le105).trans le113)) (f98.up (le105.trans le113)) (K1.up l119) (K0.up l119))
 rw [hro.se, hro.al] at con
 refine ze st114 X X X zhk X con<|fun r120 w121 h122 le123 st124 q125=> ?_
 obtain ⟨v126, rfl, f127⟩ := q125
 have f127_b := f127.le
 clear con
 refine zbY X X<|zA (v := v126) X X X<|zA (v := (.int _ _)) X X X<|zaf (v := v126) X X<|zq X X<|Y<|zj<|W.sr<|zh X X<|zh X X<|zcf X X X<|zS X X ?_
 refine zY (d := 94) rfl (fun g128 => ?_) (fun g128 => ?_)
 ·
  exfalso
  have sure_ : (decide ((((zM p).length : Int)) ≠ (((zM p).length : Int)))) = false := by simp
  exact t_of sure_ g128
 refine Z X X X<|zh X X<|Z X X X<|zh X X<|Z X X X<|zcf X X X<|zN (v := (.bool _)) X X X<|zS X X<|Z X X X<|zR (v := v116) X X<|Z X X X<|zR (v := v126) X X<|Z X X X<|ze st124 X X X zhl X (zck st124.sub (f117.up le123) f127)<|fun r129 w130 h131 le132 st133 q134=> ?_
 obtain rfl := q134
 refine Z X X X<|zbl X X<|zN (v := (.bool _)) X X X<|zS X X ?_
 refine zaw (d := 105) rfl (fun g135 => ?_) (fun g135 => ?_)
 ·
  exfalso
  have sure_ : ((!(decide (((zbz (p))) = ((zbz p)))))) = false := by simp
  exact absurd (g135.symm.trans sure_) (by decide)
 refine Z X X X<|zh X X<|Z X X X<|zh X X<|Z X X X<|zcf X X X<|zN (v := (.bool _)) X X X<|Y ?_
 refine zC rfl (fun c136 => ?_) (fun c136 => ?_)
 ·
  exfalso
  have sure_ : (decide ((allE (p) true) ≠ (allE p true))) = false := by simp
  exact t_of sure_ c136
 refine zy<|O<|W.sr<|have l137:=((l108.trans le113).trans le123).trans le132;zr st133.sub (hc5.up l137) X zaE zad X X<|have l138:=(l119.trans le123).trans le132;ze st133 X X X Tryz.call22 X (c_vote_Ask st133.sub (p := p) (p_f0.up l138) (p_f1.up l138) (p_f2.up l138) (p_f3.up l138) (p_f4.up l138) (K1.up l138) (K0.up l138))<|fun r139 w140 h141 le142 st143 q144=> ?_
 obtain ⟨v145, rfl, f146⟩ := q144
 have f146_b := f146.le
 refine zbY X X<|zA (v := v145) X X X<|zA (v := (.int _ _)) X X X<|zaf (v := v145) X X<|zq X X<|Y<|W.sr<|have l147:=((l118.trans le123).trans le132).trans le142;zr st143.sub (hc50.up l147) X zaE zad X X ?_
 have l148 := ((((l100.trans le105).trans le113).trans le123).trans le132).trans le142
 have l149 := (((le105.trans le113).trans le123).trans le132).trans le142
 have l150 := l138.trans le142
 have con := (c_vote_Ask st143.sub (p := (rotP p ys)) (f32.up l148) (f34.up l148) (f36.up l148) (f38.up l148) (f98.up l149) (K1.up l150) (K0.up l150))
 rw [hro.ak, hro.al] at con
 refine ze st143 X X X Tryz.call22 X con<|fun r151 w152 h153 le154 st155 q156=> ?_
 obtain ⟨v157, rfl, f158⟩ := q156
 have f158_b := f158.le
 clear con
 refine zbY X X<|zA (v := v157) X X X<|zA (v := (.int _ _)) X X X<|zaf (v := v157) X X<|zq X X<|Y<|W.sr<|zr st155.sub (hc5.up ((l137.trans le142).trans le154)) X zaE zad X X ?_
 have l159 := l150.trans le154
 refine zay rfl rfl (zaV rfl Tryz.call27 rfl) ((ziy st155.sub (p := p) (p_f0.up l159) (p_f1.up l159) (p_f2.up l159) (p_f3.up l159) (p_f4.up l159) (K1.up l159) (K0.up l159)).mono ?_)
 rintro _ w160 ⟨h161, v165, v168, o166, o169, rfl, le162, s164, f167, f170⟩
 refine ⟨_, rfl, ?_⟩
 have st163 := st155.call s164
 refine zbY X X<|zA (v := (.agg (List.toArray _))) X X X<|zA (v := (.int _ _)) X X X<|zQ st163 zdP X X<|fun b171 w172 st173=>zI st173 (k := 4) X X X (za f167.one (za f170.one zan)) zaC X X X<|fun w174 st175=> ?_
 obtain ⟨h176, le177, hb178, st180⟩ := st175.freeze (k := 4) rfl
 have hc179 := Cells.of hb178
 refine zq X X<|Y<|W.sr<|have l181:=((l147.trans le154).trans le162).trans le177;zr st180.sub (hc50.up l181) X zaE zad X X ?_
 have l182 := ((l148.trans le154).trans le162).trans le177
 have l183 := ((l149.trans le154).trans le162).trans le177
 have l184 := (l159.trans le162).trans le177
 have con := (ziy st180.sub (p := (rotP p ys)) (f32.up l182) (f34.up l182) (f36.up l182) (f38.up l182) (f98.up l183) (K1.up l184) (K0.up l184))
 rw [hro.dr, hro.de] at con
 refine zay rfl rfl (zaV rfl Tryz.call27 rfl) (con.mono ?_)
 rintro _ w185 ⟨h186, v190, v193, o191, o194, rfl, le187, s189, f192, f195⟩
 refine ⟨_, rfl, ?_⟩
 have st188 := st180.call s189
 clear con
 refine zbY X X<|zA (v := (.agg (List.toArray _))) X X X<|zA (v := (.int _ _)) X X X<|zQ st188 zdP X X<|fun b196 w197 st198=>zI st198 (k := 7) X X X (za f192.one (za f195.one zan)) zaC X X X<|fun w199 st200=> ?_
 obtain ⟨h201, le202, hb203, st205⟩ := st200.freeze (k := 7) rfl
 have hc204 := Cells.of hb203
 refine zq X X<|Y<|zj<|W.sr<|zR (v := v145) X X<|zR (v := v157) X X<|have l206:=(((le154.trans le162).trans le177).trans le187).trans le202;have l207:=((le162.trans le177).trans le187).trans le202;ze st205 X X X zhl X (zck st205.sub (f146.up l206) (f158.up l207))<|fun r208 w209 h210 le211 st212 q213=> ?_
 obtain rfl := q213
 refine zbl X X<|zS X X ?_
 refine zaw (d := 134) rfl (fun g214 => ?_) (fun g214 => ?_)
 ·
  exfalso
  have sure_ : ((!(decide (((ziR (p))) = ((ziR p)))))) = false := by simp
  exact absurd (g214.symm.trans sure_) (by decide)
 refine Z X X X<|zh X X<|Z X X X<|zh X X<|Z X X X<|zcf X X X<|zN (v := (.bool _)) X X X<|zS X X ?_
 refine zY (d := 139) rfl (fun g215 => ?_) (fun g215 => ?_)
 ·
  exfalso
  have sure_ : (decide ((allE (p) true) ≠ (allE p true))) = false := by simp
  exact t_of sure_ g215
 refine Z X X X<|zr st212.sub (hc179.up ((le187.trans le202).trans le211)) X zbL zaC X X<|Z X X X<|zr st212.sub (hc204.up le211) X zbL zaC X X<|Z X X X ?_
 have l220 := ((le177.trans le187).trans le202).trans le211
 obtain ⟨h216, le217, f218, st219⟩ := OSl.freeze (k := 2) st212 (f167.up l220) rfl (by first | exact zhf p | exact zhe p | (have q_ := hrot.1; omega) | omega)
 obtain ⟨h221, le222, f223, st224⟩ := OSl.freeze (k := 3) st219 (f170.up (l220.trans le217)) rfl (by first | exact zhf p | exact zhe p | (have q_ := hrot.1; omega) | omega)
 have l229 := ((le202.trans le211).trans le217).trans le222
 obtain ⟨h225, le226, f227, st228⟩ := OSl.freeze (k := 5) st224 (f192.up l229) rfl (by first | exact zhf p | exact zhe p | (have q_ := hrot.1; omega) | omega)
 obtain ⟨h230, le231, f232, st233⟩ := OSl.freeze (k := 6) st228 (f195.up (l229.trans le226)) rfl (by first | exact zhf p | exact zhe p | (have q_ := hrot.1; omega) | omega)
 refine ze st233 X X X Tryz.call31 X (c_postilref04_Same st233.sub (a := (Lexicon.mk (((zcI (p))).rules) (((zcI (p))).decisions))) (f218.up ((le222.trans le226).trans le231)) (f223.up (le226.trans le231)) (b := (Lexicon.mk (((zcI p)).rules) (((zcI p)).decisions))) (f227.up le231) f232)<|fun r234 w235 h236 le237 st238 q239=> ?_
 obtain rfl := q239
 refine Z X X X<|zbl X X<|zN (v := (.bool _)) X X X<|zS X X ?_
 refine zaw (d := 145) rfl (fun g240 => ?_) (fun g240 => ?_)
 ·
  exfalso
  have sure_ : ((!(decide (((Lexicon.mk (((zcI (p))).rules) (((zcI (p))).decisions))) = ((Lexicon.mk (((zcI p)).rules) (((zcI p)).decisions))))))) = false := by simp
  exact absurd (g240.symm.trans sure_) (by decide)
 refine Z X X X<|zh X X<|Z X X X<|zh X X<|Z X X X<|zcf X X X<|zN (v := (.bool _)) X X X<|Y ?_
 refine zC rfl (fun c241 => ?_) (fun c241 => ?_)
 ·
  exfalso
  have sure_ : (decide (((zeo (p))) ≠ ((zeo p)))) = false := by simp
  exact t_of sure_ c241
 refine zy<|O<|zj<|W.sr<|E X zt X zaL X X<|have l242:=(((((((l181.trans le187).trans le202).trans le211).trans le217).trans le222).trans le226).trans le231).trans le237;U (j := 4) st238.sub (hc50.up l242) X X X zbj X<|have l243:=(((((((l183.trans le187).trans le202).trans le211).trans le217).trans le222).trans le226).trans le231).trans le237;zaH (f98.up l243) X zaa X<|zh X X<|Y<|zG ?_
 refine zax ([4, 21, 22, 23, 24, 25] ++ t_rg 153 30) (G := Nat × Heap) (fun ⟨i, h244⟩ => [(153, .int .i64 (i : Int))]) (fun ⟨i, h244⟩ w' => Le h236 h244 ∧ St h w h244 w' [[], [], [], [], [], [], [], []] ∧ (i ≤ ys.length)) (fun ⟨i, h244⟩ => ys.length - i) ⟨0, h236⟩ ⟨rfl, trivial⟩ ⟨Le.refl _, st238, zaW⟩ ?_
 rintro ⟨i, h244⟩ _ w247 ⟨le245, st246, hi2⟩
 refine W.sr<|zaX X X X<|Y<|zj ?_
 refine zC rfl (fun c248 => ?_) (fun c248 => ?_)
 ·
  refine zy<|O<|zj<|zG<|W.sr<|zh X X<|zq X X<|Y<|zj ?_
  obtain ⟨v, hv⟩ : ∃ v, p.voters[((i + K) % p.voters.length)]? = some v := ⟨_, List.getElem?_eq_getElem (Nat.mod_lt _ hn0)⟩
  have hvy : ys[i]? = some v := (hrot.2 i (by omega)).trans hv
  have hti : (((i : Int) + (turn.tmod (p.voters.length : Int))).tmod (p.voters.length : Int)) = ((((i + K) % p.voters.length) : Nat) : Int) := by rw [hKe]; exact add_tmod _ _ _
  have hwa : allE (rotP p ys) (inB (i : Int) 0 (((rotP p ys).voters.length : Int) - 1)) = allE p true := ((ziS (p := (rotP p ys)) hvy).1).trans (hro.al true)
  have hwb : zeT (rotP p ys) (i : Int) = zfn p v := ((ziS (p := (rotP p ys)) hvy).2).trans (wrongsV_rot hro v)
  have hwc : allE p (inB (((i : Int) + (turn.tmod (p.voters.length : Int))).tmod (p.voters.length : Int)) 0 ((p.voters.length : Int) - 1)) = allE p true := by rw [hti]; exact (ziS hv).1
  have hwd : zeT p (((i : Int) + (turn.tmod (p.voters.length : Int))).tmod (p.voters.length : Int)) = zfn p v := by rw [hti]; exact (ziS hv).2
  refine zn<|zr st246.sub (hc50.up (l242.trans le245)) X zaE zad X X<|zh X X ?_
  have l249 := ((((((((l182.trans le187).trans le202).trans le211).trans le217).trans le222).trans le226).trans le231).trans le237).trans le245
  have l250 := ((((((((l184.trans le187).trans le202).trans le211).trans le217).trans le222).trans le226).trans le231).trans le237).trans le245
  have con := (zix st246.sub (p := (rotP p ys)) (f32.up l249) (f34.up l249) (f36.up l249) (f38.up l249) (f98.up (l243.trans le245)) (voter := (i : Int)) (K1.up l250) (K0.up l250))
  rw [hwa, hwb] at con
  refine ze st246 X X X Tryz.call17 X con<|fun r251 w252 h253 le254 st255 q256=> ?_
  obtain rfl := q256
  clear con
  refine zbY X X<|zA (v := (.agg (List.toArray _))) X X X<|zA (v := (.int _ _)) X X X<|zQ st255 Tryz.zeroValue36 X X<|fun b257 w258 st259=>zI st259 (k := 8) X X X (za X (za X zan)) zdp X X X<|fun w260 st261=> ?_
  obtain ⟨h262, le263, hb264, st266⟩ := st261.freeze (k := 8) rfl
  have hc265 := Cells.of hb264
  refine zq X X<|Y<|zj<|have l267:=((((((((((((((l137.trans le142).trans le154).trans le162).trans le177).trans le187).trans le202).trans le211).trans le217).trans le222).trans le226).trans le231).trans le237).trans le245).trans le254).trans le263;have l268:=(l250.trans le254).trans le263;zbg (er := ([], [], [], [], 0)) (dsts := [163, 164, 165, 166, 167, 168, 169, 170, 171, 162, 172, 173, 24, 25]) st266 Tryz.mixed<|zc 0 [] X t_kr t_kr X X (fun hD wD τD hL hS hO  => (zat (hL.sub hS) (hc5.up l267) X zaE zad X))<|zc 1 [] X t_kr t_kr X X (fun hD wD τD hL hS hO  => (zel X))<|zc 2 [] X t_kr t_kr X X (fun hD wD τD hL hS hO  => (zel X)) ?_
  refine zc 3 [1, 0] rfl t_kr t_kr rfl rfl (fun hD wD τD hL hS hO _ _ _ _ => (zhs rfl rfl (by rw [hKe]; omega))) ?_
  refine zc 4 [] X t_kr t_kr X X (fun hD wD τD hL hS hO  => (zB X zt X zaL X))<|zc 5 [0] X t_kr t_kr X X (fun hD wD τD hL hS hO _ _ => (zf (j := 4) (hL.sub hS) (hc5.up l267) X X X zbj))<|zc 6 [0] X t_kr t_kr X X (fun hD wD τD hL hS hO _ _ => (zhS (p_f4.up l268) X zaa))<|zc 7 [3, 0] X t_kr t_kr X X (fun hD wD τD hL hS hO _ _ _ _ => (r_rem X X t_om)) ?_
  refine zas 8 (.det (.tuple #[.agg (List.toArray [.int .i64 ((zfn p v).lo), .int .i64 ((zfn p v).hi)]), .int .i64 (allE p true)])) [7, 0] rfl t_kr t_kr ?_ ?_
  ·
   intro hD wD τD hL hS hO _ _ _ _
   have st269 := St.start hS
   have con := (zix st269.sub (p := p) (p_f0.up (l268.trans hL)) (p_f1.up (l268.trans hL)) (p_f2.up (l268.trans hL)) (p_f3.up (l268.trans hL)) (p_f4.up (l268.trans hL)) (voter := (((i : Int) + (turn.tmod (p.voters.length : Int))).tmod (p.voters.length : Int))) (K1.up (l268.trans hL)) (K0.up (l268.trans hL)))
   rw [hwc, hwd] at con
   refine ze st269 X X X Tryz.call17 X con<|fun r270 w271 h272 le273 st274 q275=> ?_
   obtain rfl := q275
   clear con
   exact zp ⟨_, _, rfl, st274, (), rfl, trivial⟩
  refine zc 9 [0] X t_kr t_kr X X (fun hD wD τD hL hS hO _ _ => (r_mvT X))<|zc 10 [0] X t_kr t_kr X X (fun hD wD τD hL hS hO _ _ => (zhH (v := (.agg (List.toArray _))) X X))<|zc 11 [1] X t_kr t_kr X X (fun hD wD τD hL hS hO _ _ => (zhH (v := (.int _ _)) X X))<|ziB Tryz.zeroValue36 X<|zbO<|zc 14 [13, 12, 11, 10, 9, 8, 7, 6, 5, 4, 3, 2, 1, 0] X t_kr t_kr X X (fun hD wD τD hL hS hO _ _ _ _ _ _ _ _ _ _ _ _ _ _ _ _ _ _ _ _ _ _ _ _ => (r_asI X))<|zbP X X X X X X ⟨t_kr, X, t_kr, X, t_kr, X, X, t_kr, (zbp X zcu)⟩<|fun b276=>fun hE278 w279 _ le280 st281 _ _ _ _ _ _ _ _ _ _ _ _ _ _ _ _ _ _ _ _ _ _=>zI st281 (k := 9) X X X (za X (za X zan)) zdp X X X<|fun w282 st283=> ?_
  obtain ⟨h284, le285, hb286, st288⟩ := st283.freeze (k := 9) rfl
  have hc287 := Cells.of hb286
  refine zp ⟨undef, rfl, _, _, le285, st288, ?_⟩
  intro hE289 w290 _ le291 st292 _ _ _ _ _ _ _ _ _ _ _ _ _ _ _ _ _ _ _ _ _ _ _ _ _ _
  refine AllDeps.fin X<|O<|W.sr<|zr st292.sub (hc265.up ((le280.trans le285).trans le291)) X Tryz.isAgg36 zdp X X<|zr st292.sub (hc287.up le291) X Tryz.isAgg36 zdp X X<|zi X X (r_stneq X X Tryz.eqGuardType36 (Tryz.eq_Span (zfn p v) (zfn p v)))<|zS X X ?_
  refine zY (d := 177) rfl (fun g294 => ?_) (fun g294 => ?_)
  ·
   exfalso
   have sure_ : (decide ((zfn p v) ≠ (zfn p v))) = false := by simp
   exact t_of sure_ g294
  refine Z X X X<|zh X X<|Z X X X<|zh X X<|Z X X X<|zcf X X X<|zN (v := (.bool _)) X X X<|Y ?_
  refine zC rfl (fun c295 => ?_) (fun c295 => ?_)
  ·
   exfalso
   have sure_ : (decide ((allE p true) ≠ (allE p true))) = false := by simp
   exact t_of sure_ c295
  refine zy<|zO<|O<|zn<|zaM X X t_om X<|zh X X<|Y ?_
  have l296 := ((((le245.trans le254).trans le263).trans le280).trans le285).trans le291
  refine ⟨⟨i + 1, hE289⟩, ⟨rfl, trivial⟩, ?_, ⟨l296, st292.take 8, ?_⟩, ?_⟩
  ·exact zau
  ·first | omega | (simp; omega)
  show ys.length - ((i + 1)) < ys.length - i
  omega
 refine zaI<|zm<|zm<|zam<|O<|W.sr<|zS X X<|zF X X<|Y<|zw<|zb Tryz.results12 ?_
 refine ⟨h244, _, rfl, st246.done, ?_⟩
 refine zx ?_
 first | rfl | (simp_all; done)
end Go.Pk
