/- A PART OF THE PROOF: contracts of functions, each walked once (much of it printed by a program of the author's own). -/
import Derived.Test.YtfpiiheehdedmaaGreatDoorT7
import Derived.Test.YtfpiiheehdedmaaGreatDoorT2
import Derived.Test.YtfpiiheehdedmaaGreatDoorT1
import Derived.Test.YtfpiiheehdedmaaGreatDoorT5
import Derived.Test.YtfpiiheehdedmaaGreatDoorT6
import Derived.Test.YtfpiiheehdedmaaGreatDoorT3
set_option linter.unusedSimpArgs false
set_option linter.unusedVariables false
set_option maxRecDepth 4000
namespace Go.Pk
open Go Go.RowKit Go.Proofs
def _root_.Go.Proofs.Tryz.glob0 : List Value := [.func (.func 261) #[] #[], .func (.func 262) #[] #[], .func (.func 263) #[] #[], .func (.func 264) #[] #[], .func (.func 265) #[] #[]]
def _root_.Go.Proofs.Tryz.glob1 : List Value := [.bool false, .bool false, .bool false, .bool false, .nilFunc, .bool true, .bool false, .bool true, .bool false, .func (.func 269) #[] #[], .bool true, .bool true, .bool true, .bool false, .func (.func 270) #[] #[], .bool false, .bool true, .bool true, .bool false, .func (.func 271) #[] #[], .bool false, .bool false, .bool false, .bool true, .func (.func 272) #[] #[]]
set_option maxHeartbeats 4000000 in
theorem c_stem_decided {h : Heap} {w : World} (hs : Sub h w) {t : Text} {t_v0 : Value} (t_f0 : Sl LChapter h t_v0 t.chapters) {d : Decision} (d_l2 : 0 ≤ d.kind ∧ d.kind ≤ 255) (d_l3 : d.form.length ≤ 281474976710656) (d_l7 : d.to.stem.length ≤ 281474976710656) (d_l8 : 0 ≤ d.to.mark ∧ d.to.mark ≤ 255) (K1 : Cells h 1 0 Tryz.glob1) (ht : zbm t = true) : Calls Tryz.prog 138 #[.agg #[t_v0], .agg #[.int .i64 d.number, .int .u8 d.kind, strV d.form, .int .i64 d.at_.chapter, .int .i64 d.at_.line, .int .i64 d.at_.word, strV d.to.stem, .int .u8 d.to.mark, .int .i64 d.of_]] w (Rets h w (fun _ _ res_ => res_ = .bool (zaj t d))) := by
 refine zP (n := 104) Tryz.func138 X X X<|have st0:=t_s0 hs;have t_f0_b:=t_f0.le;W.sr<|zJ st0 (cs := [t_v0]) X X X<|fun b1 w2 h3 le4 hc5 st6=>zJ st6 (cs := [.int .i64 (d.number), .int .u8 (d.kind), strV (d.form), .int .i64 (d.at_.chapter), .int .i64 (d.at_.line), .int .i64 (d.at_.word), strV (d.to.stem), .int .u8 (d.to.mark), .int .i64 (d.of_)]) X X X<|fun b7 w8 h9 le10 hc11 st12=>zF X X<|Y<|zj<|W.sr<|E X zo X zbu X X<|U (j := 1) st12.sub hc11 X X X zbV X ?_
 refine zi rfl rfl (zfW rfl rfl zbU (IntWalk.i64_in _ (by omega))) ?_
 refine zac (L := LInt) (xs := [(d.kind)]) (cs := [.int .i64 (d.kind)]) st12 (Enc.cons (L := LInt) (vs := [.int .i64 (d.kind)]) (x := (d.kind)) (h := h9) (X) Enc.nil) X X X zg Tryz.info3 X X X t_kr<|fun v13 w14 h17 le18 f15 st16=>ze st16 X X X Tryz.call135 X (ziN st16.sub _ _ f15)<|fun r19 w20 h21 le22 st23 q24=> ?_
 obtain rfl := q24
 refine zbl X X<|zS X X ?_
 refine zaw (d := 15) rfl (fun g25 => ?_) (fun g25 => ?_)
 ·
  refine M X X X X X<|M X X X X X<|M X X X X X<|M X X X X X<|M X X X X X<|zT (v := (.bool _)) X X X<|Y ?_
  refine zae rfl (fun c26 => ?_) (fun c26 => ?_)
  ·
   refine W.sr<|zF X X<|Y<|zw<|zd<|zb zcl ?_
   refine ⟨h21, _, rfl, st23.done, ?_⟩
   refine zx ?_
   have q := g25
   simp only [inAll_one, inB, Bool.not_eq_true', Bool.and_eq_false_iff, decide_eq_false_iff_not] at q
   have q1 : d.kind ≠ 1 := by omega
   have q2 : d.kind ≠ 2 := by omega
   have q3 : d.kind ≠ 3 := by omega
   have q4 : d.kind ≠ 4 := by omega
   simp [zaj, q1, q2, q3, q4]
  cases c26
 refine Z X X X<|E X zo X zl X X<|Z X X X<|U (j := 0) st23.sub (hc11.up (le18.trans le22)) X X X zz X<|Z X X X<|zac (L := LInt) (xs := [(d.number)]) (cs := [.int .i64 (d.number)]) st23 (Enc.cons (L := LInt) (vs := [.int .i64 (d.number)]) (x := (d.number)) (h := h21) (X) Enc.nil) X X X zg Tryz.info3 X X X t_kr<|fun v27 w28 h31 le32 f29 st30=>Z X X X<|ze st30 X X X Tryz.call135 X (ziN st30.sub _ _ f29)<|fun r33 w34 h35 le36 st37 q38=> ?_
 obtain rfl := q38
 refine Z X X X<|zbl X X<|zN (v := (.bool _)) X X X<|Y ?_
 refine zae rfl (fun c39 => ?_) (fun c39 => ?_)
 ·
  refine W.sr<|zF X X<|Y<|zw<|zd<|zb zcl ?_
  refine ⟨h35, _, rfl, st37.done, ?_⟩
  refine zx ?_
  have q := c39
  simp only [inAll_one] at q
  simp_all [zaj]
 refine zy<|O<|zj ?_
 rcases (show d.kind = 1 ∨ d.kind = 2 ∨ d.kind = 3 ∨ d.kind = 4 by have q := g25; simp [zcK, inB] at q; omega) with hk40 | hk40 | hk40 | hk40
 ·
  refine zn<|E X zo X zbu X X<|have l41:=((le18.trans le22).trans le32).trans le36;U (j := 1) st37.sub (hc11.up l41) X X X zbV X ?_
  refine zi rfl rfl (zbD rfl rfl (show _ = ((1 : Nat) : Int) by rw [hk40]; rfl) rfl zci zcd) ?_
  have l42 := ((((le4.trans le10).trans le18).trans le22).trans le32).trans le36
  refine zal (j := 5) st37.sub (K1.up l42) (us := [.bool true, .bool false, .bool true, .bool false, .func (.func 269) #[] #[]]) X X Tryz.isAgg256 zcd X X X<|zQ st37 Tryz.zeroValue256 X X<|fun b43 w44 st45=>zI st45 (k := 0) X X X (za X (za X (za X (za X (za X zan))))) zcd X X X<|fun w46 st47=> ?_
  obtain ⟨h48, le49, hb50, st52⟩ := st47.freeze (k := 0) rfl
  have hc51 := Cells.of hb50
  refine Y<|W.sr<|E X zo X zl X X<|U (j := 0) st52.sub (hc11.up (l41.trans le49)) X X X zz X<|E X zo X zbu X X<|U (j := 1) st52.sub (hc11.up (l41.trans le49)) X X X zbV X<|zi X X (zbq (cs := [.int .i64 (d.number), .int .u8 (d.kind), strV [], .int .i64 0, .int .i64 0, .int .i64 0, strV [], .int .u8 0, .int .i64 0]) t_kr)<|zQ st52 zbT X X<|fun b53 w54 st55=>zI st55 (k := 1) X X X (za X (za X (za X (za X (za X (za X (za X (za X (za X zan))))))))) zX X X X<|fun w56 st57=>Y<|zj<|W.sr<|E X zab X zbh X X<|U (j := 0) st57.sub hc51 X X X zbK X<|Y ?_
  refine zae rfl (fun c58 => ?_) (fun c58 => ?_)
  ·
   refine zn<|E X zo X zak X X<|U (j := 2) st57.sub (hc11.up (l41.trans le49)) X X X zaD X<|E X zo X zak X X<|zar st57 (k := 1) X X X X zak X X X<|fun w59 st60=>Y<|zj<|W.sr<|E X zab X zbh X X<|U (j := 1) st60.sub hc51 X X X zbK X<|Y ?_
   refine zae rfl (fun c61 => ?_) (fun c61 => ?_)
   ·
    cases c61
   refine zy<|O<|zj<|W.sr<|E X zab X zbh X X<|U (j := 2) st60.sub hc51 X X X zbK X<|Y ?_
   refine zae rfl (fun c62 => ?_) (fun c62 => ?_)
   ·
    refine zn<|E X zo X zai X X<|zal (j := 6) st60.sub (hc11.up (l41.trans le49)) (us := [strV (d.to.stem), .int .u8 (d.to.mark)]) X X zbQ zai X X X<|E X zo X zai X X<|zI st60 (k := 1) X X X (za X (za X zan)) zai X X X<|fun w63 st64=>Y<|zj<|W.sr<|E X zab X zbh X X<|U (j := 3) st64.sub hc51 X X X zbK X<|Y ?_
    refine zae rfl (fun c65 => ?_) (fun c65 => ?_)
    ·
     cases c65
    refine zy<|O<|W.sr<|have l66:=((((le10.trans le18).trans le22).trans le32).trans le36).trans le49;zr st64.sub (hc5.up l66) X zbk zaA X X<|E X zo X zW X X<|zal (j := 3) st64.sub (hc11.up (l41.trans le49)) (us := [.int .i64 (d.at_.chapter), .int .i64 (d.at_.line), .int .i64 (d.at_.word)]) X X zaQ zW X X X<|have l67:=l42.trans le49;ze st64 X X X Tryz.call85 X (zgP st64.sub (t := t) (t_f0.up l67) (p := d.at_))<|fun r68 w69 h70 le71 st72 q73=> ?_
    obtain rfl := q73
    refine zbY X X<|zA (v := (strV _)) X X X<|zA (v := (.int _ _)) X X X<|zfD X X<|zq X X<|Y<|zj ?_
    have qn : 1 ≤ d.number ∧ d.number ≤ 999 := by
     have q := c39
     simp [zcK, inB] at q
     omega
    refine zn<|zr st72.sub (hc11.up ((l41.trans le49).trans le71)) X zaY zX X X<|zbc (st72.get (k := 1) X) X zaY zX X X<|zi X X (zgU X X zeM (Tryz.eq_Decision d (Decision.mk (d.number) (d.kind) (d.form) (Place.mk 0 0 0) (Head.mk (d.to.stem) (d.to.mark)) 0)))<|zS X X ?_
    refine zY (d := 61) rfl (fun g74 => ?_) (fun g74 => ?_)
    ·
     refine Z X X X<|E X zab X zbh X X<|Z X X X<|U (j := 0) st72.sub (hc51.up le71) X X X zbK X<|Z X X X<|zbl X X<|Z X X X<|zS X X<|Z X X X<|E X zo X zak X X<|Z X X X<|U (j := 2) st72.sub (hc11.up ((l41.trans le49).trans le71)) X X X zaD X<|Z X X X<|ze st72 X X X Tryz.call134 X (zfj st72.sub _ zbr _)<|fun r75 w76 h77 le78 st79 q80=> ?_
     obtain rfl := q80
     refine Z X X X<|zN (v := (.bool _)) X X X<|zT (v := (.bool _)) X X X<|zS X X ?_
     refine zaw (d := 71) rfl (fun g81 => ?_) (fun g81 => ?_)
     ·
      refine Z X X X<|E X zab X zbh X X<|Z X X X<|U (j := 1) st79.sub (hc51.up (le71.trans le78)) X X X zbK X<|Z X X X<|zbl X X<|Z X X X<|zS X X<|M X X X X X<|M X X X X X<|Z X X X<|zT (v := (.bool _)) X X X<|zT (v := (.bool _)) X X X<|zS X X<|Z X X X<|E X zab X zbh X X<|Z X X X<|U (j := 2) st79.sub (hc51.up (le71.trans le78)) X X X zbK X<|Z X X X<|zbl X X<|Z X X X<|zS X X<|Z X X X<|E X zo X zai X X<|Z X X X<|have l82:=((l41.trans le49).trans le71).trans le78;zal (j := 6) st79.sub (hc11.up l82) (us := [strV (d.to.stem), .int .u8 (d.to.mark)]) X X zbQ zai X X X<|Z X X X<|ze st79 X X X Tryz.call186 X (zjh st79.sub (hd := d.to) zbr t_u8)<|fun r83 w84 h85 le86 st87 q88=> ?_
      obtain rfl := q88
      refine Z X X X<|zN (v := (.bool _)) X X X<|zT (v := (.bool _)) X X X<|zS X X ?_
      refine zaw (d := 90) rfl (fun g89 => ?_) (fun g89 => ?_)
      ·
       refine Z X X X<|E X zab X zbh X X<|Z X X X<|U (j := 3) st87.sub (hc51.up ((le71.trans le78).trans le86)) X X X zbK X<|Z X X X<|zbl X X<|Z X X X<|zS X X<|M X X X X X<|M X X X X X<|M X X X X X<|M X X X X X<|M X X X X X<|M X X X X X<|M X X X X X<|Z X X X<|zT (v := (.bool _)) X X X<|zT (v := (.bool _)) X X X<|zF X X<|Y<|zw<|zb zcl ?_
       refine ⟨h85, _, rfl, st87.done, ?_⟩
       refine zx ?_
       exact dec1_t ht hk40 c39 g74 g81 g89
      refine M X X X X X<|M X X X X X<|M X X X X X<|M X X X X X<|zk X X X X<|zk X X X X<|zk X X X X<|zk X X X X<|zk X X X X<|zk X X X X<|zk X X X X<|M X X X X X<|zN (v := (.bool _)) X X X<|zF X X<|Y<|zw<|zb zcl ?_
      refine ⟨h85, _, rfl, st87.done, ?_⟩
      refine zx ?_
      exact dec1_f1 ht hk40 c39 g74 g81 g89
     refine M X X X X X<|M X X X X X<|M X X X X X<|M X X X X X<|zk X X X X<|zk X X X X<|M X X X X X<|zN (v := (.bool _)) X X X<|zS X X<|M X X X X X<|M X X X X X<|M X X X X X<|M X X X X X<|zk X X X X<|zk X X X X<|zk X X X X<|M X X X X X<|zN (v := (.bool _)) X X X<|zS X X<|M X X X X X<|M X X X X X<|M X X X X X<|M X X X X X<|zk X X X X<|zk X X X X<|zk X X X X<|zk X X X X<|zk X X X X<|zk X X X X<|zk X X X X ?_
     refine M X X X X X<|zN (v := (.bool _)) X X X<|zF X X<|Y<|zw<|zb zcl ?_
     refine ⟨h77, _, rfl, st79.done, ?_⟩
     refine zx ?_
     exact dec1_f0 ht hk40 c39 g74 g81
    refine M X X X X X<|M X X X X X<|M X X X X X<|M X X X X X<|zk X X X X<|zk X X X X<|zk X X X X<|M X X X X X<|zN (v := (.bool _)) X X X<|zS X X<|M X X X X X<|M X X X X X<|M X X X X X<|M X X X X X<|zk X X X X<|zk X X X X<|M X X X X X<|zN (v := (.bool _)) X X X<|zS X X<|M X X X X X<|M X X X X X<|M X X X X X<|M X X X X X<|zk X X X X<|zk X X X X<|zk X X X X<|M X X X X X<|zN (v := (.bool _)) X X X<|zS X X<|M X X X X X ?_
    refine M X X X X X<|M X X X X X<|M X X X X X<|zk X X X X<|zk X X X X<|zk X X X X<|zk X X X X<|zk X X X X<|zk X X X X<|zk X X X X<|M X X X X X<|zN (v := (.bool _)) X X X<|zF X X<|Y<|zw<|zb zcl ?_
    refine ⟨h70, _, rfl, st72.done, ?_⟩
    refine zx ?_
    exact dec1_n ht hk40 c39 g74
   cases c62
  cases c58
 ·
  refine zn<|E X zo X zbu X X<|have l90:=((le18.trans le22).trans le32).trans le36;U (j := 1) st37.sub (hc11.up l90) X X X zbV X ?_
  refine zi rfl rfl (zbD rfl rfl (show _ = ((2 : Nat) : Int) by rw [hk40]; rfl) rfl zci zcd) ?_
  have l91 := ((((le4.trans le10).trans le18).trans le22).trans le32).trans le36
  refine zal (j := 10) st37.sub (K1.up l91) (us := [.bool true, .bool true, .bool true, .bool false, .func (.func 270) #[] #[]]) X X Tryz.isAgg256 zcd X X X<|zQ st37 Tryz.zeroValue256 X X<|fun b92 w93 st94=>zI st94 (k := 0) X X X (za X (za X (za X (za X (za X zan))))) zcd X X X<|fun w95 st96=> ?_
  obtain ⟨h97, le98, hb99, st101⟩ := st96.freeze (k := 0) rfl
  have hc100 := Cells.of hb99
  refine Y<|W.sr<|E X zo X zl X X<|U (j := 0) st101.sub (hc11.up (l90.trans le98)) X X X zz X<|E X zo X zbu X X<|U (j := 1) st101.sub (hc11.up (l90.trans le98)) X X X zbV X<|zi X X (zbq (cs := [.int .i64 (d.number), .int .u8 (d.kind), strV [], .int .i64 0, .int .i64 0, .int .i64 0, strV [], .int .u8 0, .int .i64 0]) t_kr)<|zQ st101 zbT X X<|fun b102 w103 st104=>zI st104 (k := 1) X X X (za X (za X (za X (za X (za X (za X (za X (za X (za X zan))))))))) zX X X X<|fun w105 st106=>Y<|zj<|W.sr<|E X zab X zbh X X<|U (j := 0) st106.sub hc100 X X X zbK X<|Y ?_
  refine zae rfl (fun c107 => ?_) (fun c107 => ?_)
  ·
   refine zn<|E X zo X zak X X<|U (j := 2) st106.sub (hc11.up (l90.trans le98)) X X X zaD X<|E X zo X zak X X<|zar st106 (k := 1) X X X X zak X X X<|fun w108 st109=>Y<|zj<|W.sr<|E X zab X zbh X X<|U (j := 1) st109.sub hc100 X X X zbK X<|Y ?_
   refine zae rfl (fun c110 => ?_) (fun c110 => ?_)
   ·
    refine zn<|E X zo X zW X X<|zal (j := 3) st109.sub (hc11.up (l90.trans le98)) (us := [.int .i64 (d.at_.chapter), .int .i64 (d.at_.line), .int .i64 (d.at_.word)]) X X zaQ zW X X X<|E X zo X zW X X<|zI st109 (k := 1) X X X (za X (za X (za X zan))) zW X X X<|fun w111 st112=>Y<|zj<|W.sr<|E X zab X zbh X X<|U (j := 2) st112.sub hc100 X X X zbK X<|Y ?_
    refine zae rfl (fun c113 => ?_) (fun c113 => ?_)
    ·
     refine zn<|E X zo X zai X X<|zal (j := 6) st112.sub (hc11.up (l90.trans le98)) (us := [strV (d.to.stem), .int .u8 (d.to.mark)]) X X zbQ zai X X X<|E X zo X zai X X<|zI st112 (k := 1) X X X (za X (za X zan)) zai X X X<|fun w114 st115=>Y<|zj<|W.sr<|E X zab X zbh X X<|U (j := 3) st115.sub hc100 X X X zbK X<|Y ?_
     refine zae rfl (fun c116 => ?_) (fun c116 => ?_)
     ·
      cases c116
     refine zy<|O<|W.sr<|have l117:=((((le10.trans le18).trans le22).trans le32).trans le36).trans le98;zr st115.sub (hc5.up l117) X zbk zaA X X<|E X zo X zW X X<|zal (j := 3) st115.sub (hc11.up (l90.trans le98)) (us := [.int .i64 (d.at_.chapter), .int .i64 (d.at_.line), .int .i64 (d.at_.word)]) X X zaQ zW X X X<|have l118:=l91.trans le98;ze st115 X X X Tryz.call85 X (zgP st115.sub (t := t) (t_f0.up l118) (p := d.at_))<|fun r119 w120 h121 le122 st123 q124=> ?_
     obtain rfl := q124
     refine zbY X X<|zA (v := (strV _)) X X X<|zA (v := (.int _ _)) X X X<|zfD X X<|zq X X<|Y<|zj ?_
     have qn : 1 ≤ d.number ∧ d.number ≤ 999 := by
      have q := c39
      simp [zcK, inB] at q
      omega
     refine zn<|zr st123.sub (hc11.up ((l90.trans le98).trans le122)) X zaY zX X X<|zbc (st123.get (k := 1) X) X zaY zX X X<|zi X X (zgU X X zeM (Tryz.eq_Decision d (Decision.mk (d.number) (d.kind) (d.form) (Place.mk (d.at_.chapter) (d.at_.line) (d.at_.word)) (Head.mk (d.to.stem) (d.to.mark)) 0)))<|zS X X ?_
     refine zY (d := 61) rfl (fun g125 => ?_) (fun g125 => ?_)
     ·
      refine Z X X X<|E X zab X zbh X X<|Z X X X<|U (j := 0) st123.sub (hc100.up le122) X X X zbK X<|Z X X X<|zbl X X<|Z X X X<|zS X X<|Z X X X<|E X zo X zak X X<|Z X X X<|U (j := 2) st123.sub (hc11.up ((l90.trans le98).trans le122)) X X X zaD X<|Z X X X<|ze st123 X X X Tryz.call134 X (zfj st123.sub _ zbr _)<|fun r126 w127 h128 le129 st130 q131=> ?_
      obtain rfl := q131
      refine Z X X X<|zN (v := (.bool _)) X X X<|zT (v := (.bool _)) X X X<|zS X X ?_
      refine zaw (d := 71) rfl (fun g132 => ?_) (fun g132 => ?_)
      ·
       refine Z X X X<|E X zab X zbh X X<|Z X X X<|U (j := 1) st130.sub (hc100.up (le122.trans le129)) X X X zbK X<|Z X X X<|zbl X X<|Z X X X<|zS X X<|Z X X X<|zh X X<|Z X X X<|zdd X X X<|Z X X X<|zN (v := (.bool _)) X X X<|zT (v := (.bool _)) X X X<|zS X X ?_
       refine zY (d := 80) rfl (fun g133 => ?_) (fun g133 => ?_)
       ·
        refine Z X X X<|E X zab X zbh X X<|Z X X X<|U (j := 2) st130.sub (hc100.up (le122.trans le129)) X X X zbK X<|Z X X X<|zbl X X<|Z X X X<|zS X X<|Z X X X<|E X zo X zai X X<|Z X X X<|have l134:=((l90.trans le98).trans le122).trans le129;zal (j := 6) st130.sub (hc11.up l134) (us := [strV (d.to.stem), .int .u8 (d.to.mark)]) X X zbQ zai X X X<|Z X X X<|ze st130 X X X Tryz.call186 X (zjh st130.sub (hd := d.to) zbr t_u8)<|fun r135 w136 h137 le138 st139 q140=> ?_
        obtain rfl := q140
        refine Z X X X<|zN (v := (.bool _)) X X X<|zT (v := (.bool _)) X X X<|zS X X ?_
        refine zaw (d := 90) rfl (fun g141 => ?_) (fun g141 => ?_)
        ·
         refine Z X X X<|E X zab X zbh X X<|Z X X X<|U (j := 3) st139.sub (hc100.up ((le122.trans le129).trans le138)) X X X zbK X<|Z X X X<|zbl X X<|Z X X X<|zS X X<|M X X X X X<|M X X X X X<|M X X X X X<|M X X X X X<|M X X X X X<|M X X X X X<|M X X X X X<|Z X X X<|zT (v := (.bool _)) X X X<|zT (v := (.bool _)) X X X<|zF X X<|Y<|zw<|zb zcl ?_
         refine ⟨h137, _, rfl, st139.done, ?_⟩
         refine zx ?_
         exact dec2_t ht hk40 c39 g125 g132 g133 g141
        refine M X X X X X<|M X X X X X<|M X X X X X<|M X X X X X<|zk X X X X<|zk X X X X<|zk X X X X<|zk X X X X<|zk X X X X<|zk X X X X<|zk X X X X<|M X X X X X<|zN (v := (.bool _)) X X X<|zF X X<|Y<|zw<|zb zcl ?_
        refine ⟨h137, _, rfl, st139.done, ?_⟩
        refine zx ?_
        exact dec2_f2 ht hk40 c39 g125 g132 g133 g141
       refine M X X X X X<|M X X X X X<|M X X X X X<|M X X X X X<|zk X X X X<|zk X X X X<|zk X X X X<|M X X X X X<|zN (v := (.bool _)) X X X<|zS X X<|M X X X X X<|M X X X X X<|M X X X X X<|M X X X X X<|zk X X X X<|zk X X X X<|zk X X X X<|zk X X X X<|zk X X X X<|zk X X X X<|zk X X X X<|M X X X X X<|zN (v := (.bool _)) X X X<|zF X X<|Y<|zw<|zb zcl ?_
       refine ⟨h128, _, rfl, st130.done, ?_⟩
       refine zx ?_
       exact dec2_f1 ht hk40 c39 g125 g132 g133
      refine M X X X X X<|M X X X X X<|M X X X X X<|M X X X X X<|zk X X X X<|zk X X X X<|M X X X X X<|zN (v := (.bool _)) X X X<|zS X X<|M X X X X X<|M X X X X X<|M X X X X X<|M X X X X X<|zk X X X X<|zk X X X X<|zk X X X X<|M X X X X X<|zN (v := (.bool _)) X X X<|zS X X<|M X X X X X<|M X X X X X<|M X X X X X<|M X X X X X<|zk X X X X<|zk X X X X<|zk X X X X<|zk X X X X<|zk X X X X<|zk X X X X<|zk X X X X ?_
      refine M X X X X X<|zN (v := (.bool _)) X X X<|zF X X<|Y<|zw<|zb zcl ?_
      refine ⟨h128, _, rfl, st130.done, ?_⟩
      refine zx ?_
      exact dec2_f0 ht hk40 c39 g125 g132
     refine M X X X X X<|M X X X X X<|M X X X X X<|M X X X X X<|zk X X X X<|zk X X X X<|zk X X X X<|M X X X X X<|zN (v := (.bool _)) X X X<|zS X X<|M X X X X X<|M X X X X X<|M X X X X X<|M X X X X X<|zk X X X X<|zk X X X X<|M X X X X X<|zN (v := (.bool _)) X X X<|zS X X<|M X X X X X<|M X X X X X<|M X X X X X<|M X X X X X<|zk X X X X<|zk X X X X<|zk X X X X<|M X X X X X<|zN (v := (.bool _)) X X X<|zS X X<|M X X X X X ?_
     refine M X X X X X<|M X X X X X<|M X X X X X<|zk X X X X<|zk X X X X<|zk X X X X<|zk X X X X<|zk X X X X<|zk X X X X<|zk X X X X<|M X X X X X<|zN (v := (.bool _)) X X X<|zF X X<|Y<|zw<|zb zcl ?_
     refine ⟨h121, _, rfl, st123.done, ?_⟩
     refine zx ?_
     exact dec2_n ht hk40 c39 g125
    cases c113
   cases c110
  cases c107
 ·
  refine zn<|E X zo X zbu X X<|have l142:=((le18.trans le22).trans le32).trans le36;U (j := 1) st37.sub (hc11.up l142) X X X zbV X ?_
  refine zi rfl rfl (zbD rfl rfl (show _ = ((3 : Nat) : Int) by rw [hk40]; rfl) rfl zci zcd) ?_
  have l143 := ((((le4.trans le10).trans le18).trans le22).trans le32).trans le36
  refine zal (j := 15) st37.sub (K1.up l143) (us := [.bool false, .bool true, .bool true, .bool false, .func (.func 271) #[] #[]]) X X Tryz.isAgg256 zcd X X X<|zQ st37 Tryz.zeroValue256 X X<|fun b144 w145 st146=>zI st146 (k := 0) X X X (za X (za X (za X (za X (za X zan))))) zcd X X X<|fun w147 st148=> ?_
  obtain ⟨h149, le150, hb151, st153⟩ := st148.freeze (k := 0) rfl
  have hc152 := Cells.of hb151
  refine Y<|W.sr<|E X zo X zl X X<|U (j := 0) st153.sub (hc11.up (l142.trans le150)) X X X zz X<|E X zo X zbu X X<|U (j := 1) st153.sub (hc11.up (l142.trans le150)) X X X zbV X<|zi X X (zbq (cs := [.int .i64 (d.number), .int .u8 (d.kind), strV [], .int .i64 0, .int .i64 0, .int .i64 0, strV [], .int .u8 0, .int .i64 0]) t_kr)<|zQ st153 zbT X X<|fun b154 w155 st156=>zI st156 (k := 1) X X X (za X (za X (za X (za X (za X (za X (za X (za X (za X zan))))))))) zX X X X<|fun w157 st158=>Y<|zj<|W.sr<|E X zab X zbh X X<|U (j := 0) st158.sub hc152 X X X zbK X<|Y ?_
  refine zae rfl (fun c159 => ?_) (fun c159 => ?_)
  ·
   cases c159
  refine zy<|O<|zj<|W.sr<|E X zab X zbh X X<|U (j := 1) st158.sub hc152 X X X zbK X<|Y ?_
  refine zae rfl (fun c160 => ?_) (fun c160 => ?_)
  ·
   refine zn<|E X zo X zW X X<|zal (j := 3) st158.sub (hc11.up (l142.trans le150)) (us := [.int .i64 (d.at_.chapter), .int .i64 (d.at_.line), .int .i64 (d.at_.word)]) X X zaQ zW X X X<|E X zo X zW X X<|zI st158 (k := 1) X X X (za X (za X (za X zan))) zW X X X<|fun w161 st162=>Y<|zj<|W.sr<|E X zab X zbh X X<|U (j := 2) st162.sub hc152 X X X zbK X<|Y ?_
   refine zae rfl (fun c163 => ?_) (fun c163 => ?_)
   ·
    refine zn<|E X zo X zai X X<|zal (j := 6) st162.sub (hc11.up (l142.trans le150)) (us := [strV (d.to.stem), .int .u8 (d.to.mark)]) X X zbQ zai X X X<|E X zo X zai X X<|zI st162 (k := 1) X X X (za X (za X zan)) zai X X X<|fun w164 st165=>Y<|zj<|W.sr<|E X zab X zbh X X<|U (j := 3) st165.sub hc152 X X X zbK X<|Y ?_
    refine zae rfl (fun c166 => ?_) (fun c166 => ?_)
    ·
     cases c166
    refine zy<|O<|W.sr<|have l167:=((((le10.trans le18).trans le22).trans le32).trans le36).trans le150;zr st165.sub (hc5.up l167) X zbk zaA X X<|E X zo X zW X X<|zal (j := 3) st165.sub (hc11.up (l142.trans le150)) (us := [.int .i64 (d.at_.chapter), .int .i64 (d.at_.line), .int .i64 (d.at_.word)]) X X zaQ zW X X X<|have l168:=l143.trans le150;ze st165 X X X Tryz.call85 X (zgP st165.sub (t := t) (t_f0.up l168) (p := d.at_))<|fun r169 w170 h171 le172 st173 q174=> ?_
    obtain rfl := q174
    refine zbY X X<|zA (v := (strV _)) X X X<|zA (v := (.int _ _)) X X X<|zfD X X<|zq X X<|Y<|zj ?_
    have qn : 1 ≤ d.number ∧ d.number ≤ 999 := by
     have q := c39
     simp [zcK, inB] at q
     omega
    refine zn<|zr st173.sub (hc11.up ((l142.trans le150).trans le172)) X zaY zX X X<|zbc (st173.get (k := 1) X) X zaY zX X X<|zi X X (zgU X X zeM (Tryz.eq_Decision d (Decision.mk (d.number) (d.kind) ([]) (Place.mk (d.at_.chapter) (d.at_.line) (d.at_.word)) (Head.mk (d.to.stem) (d.to.mark)) 0)))<|zS X X ?_
    refine zY (d := 61) rfl (fun g175 => ?_) (fun g175 => ?_)
    ·
     refine Z X X X<|E X zab X zbh X X<|Z X X X<|U (j := 0) st173.sub (hc152.up le172) X X X zbK X<|Z X X X<|zbl X X<|Z X X X<|zS X X<|M X X X X X<|M X X X X X<|M X X X X X<|Z X X X<|zT (v := (.bool _)) X X X<|zT (v := (.bool _)) X X X<|zS X X<|Z X X X<|E X zab X zbh X X<|Z X X X<|U (j := 1) st173.sub (hc152.up le172) X X X zbK X<|Z X X X<|zbl X X<|Z X X X<|zS X X<|Z X X X<|zh X X<|Z X X X<|zdd X X X<|Z X X X<|zN (v := (.bool _)) X X X<|zT (v := (.bool _)) X X X ?_
     refine zS X X ?_
     refine zY (d := 80) rfl (fun g176 => ?_) (fun g176 => ?_)
     ·
      refine Z X X X<|E X zab X zbh X X<|Z X X X<|U (j := 2) st173.sub (hc152.up le172) X X X zbK X<|Z X X X<|zbl X X<|Z X X X<|zS X X<|Z X X X<|E X zo X zai X X<|Z X X X<|zal (j := 6) st173.sub (hc11.up ((l142.trans le150).trans le172)) (us := [strV (d.to.stem), .int .u8 (d.to.mark)]) X X zbQ zai X X X<|Z X X X<|ze st173 X X X Tryz.call186 X (zjh st173.sub (hd := d.to) zbr t_u8)<|fun r177 w178 h179 le180 st181 q182=> ?_
      obtain rfl := q182
      refine Z X X X<|zN (v := (.bool _)) X X X<|zT (v := (.bool _)) X X X<|zS X X ?_
      refine zaw (d := 90) rfl (fun g183 => ?_) (fun g183 => ?_)
      ·
       refine Z X X X<|E X zab X zbh X X<|Z X X X<|U (j := 3) st181.sub (hc152.up (le172.trans le180)) X X X zbK X<|Z X X X<|zbl X X<|Z X X X<|zS X X<|M X X X X X<|M X X X X X<|M X X X X X<|M X X X X X<|M X X X X X<|M X X X X X<|M X X X X X<|Z X X X<|zT (v := (.bool _)) X X X<|zT (v := (.bool _)) X X X<|zF X X<|Y<|zw<|zb zcl ?_
       refine ⟨h179, _, rfl, st181.done, ?_⟩
       refine zx ?_
       exact dec3_t ht hk40 c39 g175 g176 g183
      refine M X X X X X<|M X X X X X<|M X X X X X<|M X X X X X<|zk X X X X<|zk X X X X<|zk X X X X<|zk X X X X<|zk X X X X<|zk X X X X<|zk X X X X<|M X X X X X<|zN (v := (.bool _)) X X X<|zF X X<|Y<|zw<|zb zcl ?_
      refine ⟨h179, _, rfl, st181.done, ?_⟩
      refine zx ?_
      exact dec3_f1 ht hk40 c39 g175 g176 g183
     refine M X X X X X<|M X X X X X<|M X X X X X<|M X X X X X<|zk X X X X<|zk X X X X<|zk X X X X<|M X X X X X<|zN (v := (.bool _)) X X X<|zS X X<|M X X X X X<|M X X X X X<|M X X X X X<|M X X X X X<|zk X X X X<|zk X X X X<|zk X X X X<|zk X X X X<|zk X X X X<|zk X X X X<|zk X X X X<|M X X X X X<|zN (v := (.bool _)) X X X<|zF X X<|Y<|zw<|zb zcl ?_
     refine ⟨h171, _, rfl, st173.done, ?_⟩
     refine zx ?_
     exact dec3_f0 ht hk40 c39 g175 g176
    refine M X X X X X<|M X X X X X<|M X X X X X<|M X X X X X<|zk X X X X<|zk X X X X<|zk X X X X<|M X X X X X<|zN (v := (.bool _)) X X X<|zS X X<|M X X X X X<|M X X X X X<|M X X X X X<|M X X X X X<|zk X X X X<|zk X X X X<|M X X X X X<|zN (v := (.bool _)) X X X<|zS X X<|M X X X X X<|M X X X X X<|M X X X X X<|M X X X X X<|zk X X X X<|zk X X X X<|zk X X X X<|M X X X X X<|zN (v := (.bool _)) X X X<|zS X X<|M X X X X X ?_
    refine M X X X X X<|M X X X X X<|M X X X X X<|zk X X X X<|zk X X X X<|zk X X X X<|zk X X X X<|zk X X X X<|zk X X X X<|zk X X X X<|M X X X X X<|zN (v := (.bool _)) X X X<|zF X X<|Y<|zw<|zb zcl ?_
    refine ⟨h171, _, rfl, st173.done, ?_⟩
    refine zx ?_
    exact dec3_n ht hk40 c39 g175
   cases c163
  cases c160
 refine zn<|E X zo X zbu X X<|have l184:=((le18.trans le22).trans le32).trans le36;U (j := 1) st37.sub (hc11.up l184) X X X zbV X ?_
 refine zi rfl rfl (zbD rfl rfl (show _ = ((4 : Nat) : Int) by rw [hk40]; rfl) rfl zci zcd) ?_
 have l185 := ((((le4.trans le10).trans le18).trans le22).trans le32).trans le36
 refine zal (j := 20) st37.sub (K1.up l185) (us := [.bool false, .bool false, .bool false, .bool true, .func (.func 272) #[] #[]]) X X Tryz.isAgg256 zcd X X X<|zQ st37 Tryz.zeroValue256 X X<|fun b186 w187 st188=>zI st188 (k := 0) X X X (za X (za X (za X (za X (za X zan))))) zcd X X X<|fun w189 st190=> ?_
 obtain ⟨h191, le192, hb193, st195⟩ := st190.freeze (k := 0) rfl
 have hc194 := Cells.of hb193
 refine Y<|W.sr<|E X zo X zl X X<|U (j := 0) st195.sub (hc11.up (l184.trans le192)) X X X zz X<|E X zo X zbu X X<|U (j := 1) st195.sub (hc11.up (l184.trans le192)) X X X zbV X<|zi X X (zbq (cs := [.int .i64 (d.number), .int .u8 (d.kind), strV [], .int .i64 0, .int .i64 0, .int .i64 0, strV [], .int .u8 0, .int .i64 0]) t_kr)<|zQ st195 zbT X X<|fun b196 w197 st198=>zI st198 (k := 1) X X X (za X (za X (za X (za X (za X (za X (za X (za X (za X zan))))))))) zX X X X<|fun w199 st200=>Y<|zj<|W.sr<|E X zab X zbh X X<|U (j := 0) st200.sub hc194 X X X zbK X<|Y ?_
 refine zae rfl (fun c201 => ?_) (fun c201 => ?_)
 ·
  cases c201
 refine zy<|O<|zj<|W.sr<|E X zab X zbh X X<|U (j := 1) st200.sub hc194 X X X zbK X<|Y ?_
 refine zae rfl (fun c202 => ?_) (fun c202 => ?_)
 ·
  cases c202
 refine zy<|O<|zj<|W.sr<|E X zab X zbh X X<|U (j := 2) st200.sub hc194 X X X zbK X<|Y ?_
 refine zae rfl (fun c203 => ?_) (fun c203 => ?_)
 ·
  cases c203
 refine zy<|O<|zj<|W.sr<|E X zab X zbh X X<|U (j := 3) st200.sub hc194 X X X zbK X<|Y ?_
 refine zae rfl (fun c204 => ?_) (fun c204 => ?_)
 ·
  refine zn<|E X zo X zl X X<|U (j := 8) st200.sub (hc11.up (l184.trans le192)) X X X zz X<|E X zo X zl X X<|zar st200 (k := 1) X X X X zl X X X<|fun w205 st206=>Y<|W.sr<|have l207:=((((le10.trans le18).trans le22).trans le32).trans le36).trans le192;zr st206.sub (hc5.up l207) X zbk zaA X X<|E X zo X zW X X<|zal (j := 3) st206.sub (hc11.up (l184.trans le192)) (us := [.int .i64 (d.at_.chapter), .int .i64 (d.at_.line), .int .i64 (d.at_.word)]) X X zaQ zW X X X<|have l208:=l185.trans le192;ze st206 X X X Tryz.call85 X (zgP st206.sub (t := t) (t_f0.up l208) (p := d.at_))<|fun r209 w210 h211 le212 st213 q214=> ?_
  obtain rfl := q214
  refine zbY X X<|zA (v := (strV _)) X X X<|zA (v := (.int _ _)) X X X<|zfD X X<|zq X X<|Y<|zj ?_
  have qn : 1 ≤ d.number ∧ d.number ≤ 999 := by
   have q := c39
   simp [zcK, inB] at q
   omega
  refine zn<|zr st213.sub (hc11.up ((l184.trans le192).trans le212)) X zaY zX X X<|zbc (st213.get (k := 1) X) X zaY zX X X<|zi X X (zgU X X zeM (Tryz.eq_Decision d (Decision.mk (d.number) (d.kind) ([]) (Place.mk 0 0 0) (Head.mk ([]) 0) (d.of_))))<|zS X X ?_
  refine zY (d := 61) rfl (fun g215 => ?_) (fun g215 => ?_)
  ·
   refine Z X X X<|E X zab X zbh X X<|Z X X X<|U (j := 0) st213.sub (hc194.up le212) X X X zbK X<|Z X X X<|zbl X X<|Z X X X<|zS X X<|M X X X X X<|M X X X X X<|M X X X X X<|Z X X X<|zT (v := (.bool _)) X X X<|zT (v := (.bool _)) X X X<|zS X X<|Z X X X<|E X zab X zbh X X<|Z X X X<|U (j := 1) st213.sub (hc194.up le212) X X X zbK X<|Z X X X<|zbl X X<|Z X X X<|zS X X<|M X X X X X<|M X X X X X<|Z X X X<|zT (v := (.bool _)) X X X<|zT (v := (.bool _)) X X X<|zS X X<|Z X X X ?_
   refine E X zab X zbh X X<|Z X X X<|U (j := 2) st213.sub (hc194.up le212) X X X zbK X<|Z X X X<|zbl X X<|Z X X X<|zS X X<|M X X X X X<|M X X X X X<|M X X X X X<|Z X X X<|zT (v := (.bool _)) X X X<|zT (v := (.bool _)) X X X<|zS X X<|Z X X X<|E X zab X zbh X X<|Z X X X<|U (j := 3) st213.sub (hc194.up le212) X X X zbK X<|Z X X X<|zbl X X<|Z X X X<|zS X X<|Z X X X<|E X zo X zl X X<|Z X X X<|U (j := 0) st213.sub (hc11.up ((l184.trans le192).trans le212)) X X X zz X<|Z X X X<|ziC X X t_om X<|Z X X X<|E X zo X zl X X ?_
   refine Z X X X<|U (j := 8) st213.sub (hc11.up ((l184.trans le192).trans le212)) X X X zz X<|Z X X X<|zac (L := LInt) (xs := [(d.of_)]) (cs := [.int .i64 (d.of_)]) st213 (Enc.cons (L := LInt) (vs := [.int .i64 (d.of_)]) (x := (d.of_)) (h := h211) (X) Enc.nil) X X X zg Tryz.info3 X X X t_kr<|fun v216 w217 h220 le221 f218 st219=>Z X X X<|ze st219 X X X Tryz.call135 X (ziN st219.sub _ _ f218)<|fun r222 w223 h224 le225 st226 q227=> ?_
   obtain rfl := q227
   refine Z X X X<|zN (v := (.bool _)) X X X<|zT (v := (.bool _)) X X X<|zF X X<|Y<|zw<|zb zcl ?_
   refine ⟨h224, _, rfl, st226.done, ?_⟩
   refine zx ?_
   exact dec4_t ht hk40 c39 g215
  refine M X X X X X<|M X X X X X<|M X X X X X<|M X X X X X<|zk X X X X<|zk X X X X<|zk X X X X<|M X X X X X<|zN (v := (.bool _)) X X X<|zS X X<|M X X X X X<|M X X X X X<|M X X X X X<|M X X X X X<|zk X X X X<|zk X X X X<|M X X X X X<|zN (v := (.bool _)) X X X<|zS X X<|M X X X X X<|M X X X X X<|M X X X X X<|M X X X X X<|zk X X X X<|zk X X X X<|zk X X X X<|M X X X X X<|zN (v := (.bool _)) X X X<|zS X X<|M X X X X X ?_
  refine M X X X X X<|M X X X X X<|M X X X X X<|zk X X X X<|zk X X X X<|zk X X X X<|zk X X X X<|zk X X X X<|zk X X X X<|zk X X X X<|M X X X X X<|zN (v := (.bool _)) X X X<|zF X X<|Y<|zw<|zb zcl ?_
  refine ⟨h211, _, rfl, st213.done, ?_⟩
  refine zx ?_
  exact dec4_n ht hk40 c39 g215
 cases c204
end Go.Pk

namespace Go.Pk
open Go Go.RowKit Go.Proofs
theorem zji {xs : List Rule} {v : Value} {g : FuncId} {caps : List Value} (S : Nat → Heap → World → Prop) (p : Nat → Bool)
  (hS : ∀ k h w, S k h w → Sub h w ∧ Sl LRule h v xs) (hup : ∀ k h w h' w', S k h w → St h w h' w' [] → S k h' w')
  (hf : ∀ k x h w vs, S k h w → xs[k]? = some x → LRule.R h vs x → Calls Tryz.prog g (.agg vs.toArray :: caps).toArray w (fun e w' => ∃ h', e = .returned (.bool (p k)) ∧ Le h h' ∧ S (k + 1) h' w'))
  (hg : ∀ a w, (callFunc g a).run Tryz.prog w = .ok (.enter g a) w) {h : Heap} {w : World} (h0 : S 0 h w) :
  Calls Tryz.prog 132 #[v, .func (.func g) #[] caps.toArray] w (fun e w' => ∃ h' k b, e = .returned (.bool b) ∧ S k h' w' ∧ (b = true ↔ ∀ j, j < xs.length → p j = true)) := by
 refine zP (n := 9) Tryz.func132 X X X ?_
 have st0 : St h w h w [] := St.start (hS _ _ _ h0).1
 refine W.sr<|zJ st0 (v := .func (.func g) #[] caps.toArray) (cs := [.func (.func g) #[] caps.toArray]) X X X<|fun b w1 h1 le1 hc st1=>have h1S:=hup _ _ _ _ _ h0 st1;zF X X<|Y<|W.sr<|zR (v := v) X X<|zcL X X X ?_
 have con := zew (v := v) (g := 180) (caps := [.pointer (some ⟨b, 0, none⟩)]) (fun k h w => S k h w ∧ Cells h b 0 [.func (.func g) #[] caps.toArray]) (fun k => !p k) (fun k h w hs => hS k h w hs.1) (fun k x h2 w2 vs hs hx hr u hu => by
  subst hu
  obtain ⟨hs, hc2⟩ := hs
  refine zP (n := 8) Tryz.func180 X X X ?_
  have st2 : St h2 w2 h2 w2 [] := St.start (hS _ _ _ hs).1
  refine W.sr<|zJ st2 (v := .agg vs.toArray) (cs := vs) X X X<|fun b3 w3 h3 le3 hc3 st3=>have hs3:=hup _ _ _ _ _ hs st3;zF X X<|Y<|W.sr<|U (j := 0) st3.sub (hc2.up le3) X X X Tryz.isAgg210 X<|zr st3.sub hc3 X Tryz.isAgg68 zcV (LRule.len hr) X ?_
  refine zay rfl rfl (zca (fs := []) (cs := caps) rfl rfl hg rfl) ((hf k x h3 w3 vs hs3 hx (LRule.up hr le3)).mono ?_)
  rintro e w4 ⟨h4, rfl, le4, hs4⟩
  refine ⟨_, rfl, ?_⟩
  refine zbl X X<|zF X X<|Y<|zw<|zb Tryz.results180 ?_
  exact ⟨h4, rfl, hs4, hc2.up (le3.trans le4)⟩) Tryz.call180 ⟨h1S, hc⟩
 refine zay rfl rfl (zaV rfl Tryz.call179 rfl) (con.mono ?_)
 rintro e w2 ⟨h2, k, rfl, q1, q2, q3, q4⟩
 refine ⟨_, rfl, ?_⟩
 refine zbl X X<|zF X X<|Y<|zw<|zb Tryz.results132 ?_
 refine ⟨h2, _, _, rfl, q4.1, ?_⟩
 simp only [Bool.not_eq_true', decide_eq_false_iff_not, Bool.not_eq_false', Bool.not_eq_true] at q2 q3 ⊢
 constructor
 ·intro hk j hj
  exact q2 j (by omega)
 ·intro hall hk
  have := q3 hk
  rw [hall k hk] at this; cases this
theorem c_stem_all_api_Rule {xs : List Rule} {v : Value} {g : FuncId} {caps : List Value} {h : Heap} {w : World} (hs : Sub h w) (hx : Sl LRule h v xs) (q : Rule → Bool)
  (hf : ∀ x h' w' vs, Le h h' → Sub h' w' → x ∈ xs → LRule.R h' vs x → ∀ u, u = .agg vs.toArray → Calls Tryz.prog g (u :: caps).toArray w' (Rets h' w' fun _ _ r => r = .bool (q x)))
  (hg : ∀ a w, (callFunc g a).run Tryz.prog w = .ok (.enter g a) w) :
  Calls Tryz.prog 132 #[v, .func (.func g) #[] caps.toArray] w (Rets h w fun _ _ r => r = .bool (xs.all q)) := by
 refine (zji (xs := xs) (v := v) (fun _ h' w' => St h w h' w' []) (fun k => ((xs[k]?).map q).getD true) (fun k h' w' s => ⟨s.sub, hx.up s.le⟩) (fun k h1 w1 h2 w2 s1 s2 => s1.call0 s2) (fun k x h1 w1 vs s1 hk hr => ?_) hg (St.start hs)).mono ?_
 ·refine (hf x h1 w1 vs s1.le s1.sub (List.mem_of_getElem? hk) hr _ rfl).mono ?_
  rintro e w2 ⟨h2, r, rfl, s2, rfl⟩
  refine ⟨h2, ?_, s2.le, s1.call0 s2⟩
  rw [hk]; rfl
 ·rintro e w2 ⟨h2, k, b, rfl, s2, hb⟩
  refine ⟨h2, _, rfl, s2, congrArg Value.bool ?_⟩
  rw [Bool.eq_iff_iff, hb, List.all_eq_true]
  constructor
  ·intro hall x hx'
   obtain ⟨j, hj⟩ := List.mem_iff_getElem?.1 hx'
   have := hall j (List.getElem?_eq_some_iff.1 hj).1
   rw [hj] at this; exact this
  ·intro hall j hj
   rw [List.getElem?_eq_getElem hj]
   exact hall _ (List.getElem_mem hj)
theorem zib {xs : List Decision} {v : Value} {g : FuncId} {caps : List Value} (S : Nat → Heap → World → Prop) (p : Nat → Bool)
  (hS : ∀ k h w, S k h w → Sub h w ∧ Sl LDecision h v xs) (hup : ∀ k h w h' w', S k h w → St h w h' w' [] → S k h' w')
  (hf : ∀ k x h w vs, S k h w → xs[k]? = some x → LDecision.R h vs x → Calls Tryz.prog g (.agg vs.toArray :: caps).toArray w (fun e w' => ∃ h', e = .returned (.bool (p k)) ∧ Le h h' ∧ S (k + 1) h' w'))
  (hg : ∀ a w, (callFunc g a).run Tryz.prog w = .ok (.enter g a) w) {h : Heap} {w : World} (h0 : S 0 h w) :
  Calls Tryz.prog 136 #[v, .func (.func g) #[] caps.toArray] w (fun e w' => ∃ h' k b, e = .returned (.bool b) ∧ S k h' w' ∧ (b = true ↔ ∀ j, j < xs.length → p j = true)) := by
 refine zP (n := 9) Tryz.func136 X X X ?_
 have st0 : St h w h w [] := St.start (hS _ _ _ h0).1
 refine W.sr<|zJ st0 (v := .func (.func g) #[] caps.toArray) (cs := [.func (.func g) #[] caps.toArray]) X X X<|fun b w1 h1 le1 hc st1=>have h1S:=hup _ _ _ _ _ h0 st1;zF X X<|Y<|W.sr<|zR (v := v) X X<|zcL X X X ?_
 have con := zdT (v := v) (g := 185) (caps := [.pointer (some ⟨b, 0, none⟩)]) (fun k h w => S k h w ∧ Cells h b 0 [.func (.func g) #[] caps.toArray]) (fun k => !p k) (fun k h w hs => hS k h w hs.1) (fun k x h2 w2 vs hs hx hr u hu => by
  subst hu
  obtain ⟨hs, hc2⟩ := hs
  refine zP (n := 8) Tryz.func185 X X X ?_
  have st2 : St h2 w2 h2 w2 [] := St.start (hS _ _ _ hs).1
  refine W.sr<|zJ st2 (v := .agg vs.toArray) (cs := vs) X X X<|fun b3 w3 h3 le3 hc3 st3=>have hs3:=hup _ _ _ _ _ hs st3;zF X X<|Y<|W.sr<|U (j := 0) st3.sub (hc2.up le3) X X X Tryz.isAgg213 X<|zr st3.sub hc3 X zaY zX (LDecision.len hr) X ?_
  refine zay rfl rfl (zca (fs := []) (cs := caps) rfl rfl hg rfl) ((hf k x h3 w3 vs hs3 hx (LDecision.up hr le3)).mono ?_)
  rintro e w4 ⟨h4, rfl, le4, hs4⟩
  refine ⟨_, rfl, ?_⟩
  refine zbl X X<|zF X X<|Y<|zw<|zb Tryz.results185 ?_
  exact ⟨h4, rfl, hs4, hc2.up (le3.trans le4)⟩) Tryz.call185 ⟨h1S, hc⟩
 refine zay rfl rfl (zaV rfl Tryz.call184 rfl) (con.mono ?_)
 rintro e w2 ⟨h2, k, rfl, q1, q2, q3, q4⟩
 refine ⟨_, rfl, ?_⟩
 refine zbl X X<|zF X X<|Y<|zw<|zb Tryz.results136 ?_
 refine ⟨h2, _, _, rfl, q4.1, ?_⟩
 simp only [Bool.not_eq_true', decide_eq_false_iff_not, Bool.not_eq_false', Bool.not_eq_true] at q2 q3 ⊢
 constructor
 ·intro hk j hj
  exact q2 j (by omega)
 ·intro hall hk
  have := q3 hk
  rw [hall k hk] at this; cases this
end Go.Pk

namespace Go.Pk
open Go Go.RowKit Go.Proofs
theorem c_stem_Check_1 {h : Heap} {w : World} (hs : Sub h w) {r : Rule} (r_l1 : r.cut.length ≤ 281474976710656) (r_l2 : r.put.length ≤ 281474976710656) : Calls Tryz.prog 133 #[.agg #[strV r.cut, strV r.put, .int .i64 r.least]] w (Rets h w (fun _ _ res_ => res_ = .bool (zgZ r))) := by
 refine zP (n := 24) Tryz.func133 X X X<|have st0:=t_s0 hs;W.sr<|zJ st0 (cs := [strV (r.cut), strV (r.put), .int .i64 (r.least)]) X X X<|fun b1 w2 h3 le4 hc5 st6=>zF X X<|Y<|W.sr<|E X zbG X zak X X<|U (j := 0) st6.sub hc5 X X X zaD X<|ze st6 X X X Tryz.call134 X (zfj st6.sub _ zbr _)<|fun r7 w8 h9 le10 st11 q12=> ?_
 obtain rfl := q12
 refine zS X X ?_
 refine zaw (d := 6) rfl (fun g13 => ?_) (fun g13 => ?_)
 ·
  refine Z X X X<|E X zbG X zak X X<|Z X X X<|U (j := 1) st11.sub (hc5.up le10) X X X zaD X<|Z X X X<|ze st11 X X X Tryz.call134 X (zfj st11.sub _ zbr _)<|fun r14 w15 h16 le17 st18 q19=> ?_
  obtain rfl := q19
  refine zT (v := (.bool _)) X X X<|zS X X ?_
  refine zaw (d := 11) rfl (fun g20 => ?_) (fun g20 => ?_)
  ·
   refine Z X X X<|E X zbG X zak X X<|Z X X X<|U (j := 0) st18.sub (hc5.up (le10.trans le17)) X X X zaD X<|Z X X X<|E X zbG X zak X X<|Z X X X<|U (j := 1) st18.sub (hc5.up (le10.trans le17)) X X X zaD X<|Z X X X<|zi X X (r_sneq X X)<|zT (v := (.bool _)) X X X<|zS X X ?_
   refine zY (d := 18) rfl (fun g21 => ?_) (fun g21 => ?_)
   ·
    refine Z X X X<|E X zbG X zl X X<|Z X X X<|U (j := 2) st18.sub (hc5.up (le10.trans le17)) X X X zz X<|Z X X X<|zac (L := LInt) (xs := [(r.least)]) (cs := [.int .i64 (r.least)]) st18 (Enc.cons (L := LInt) (vs := [.int .i64 (r.least)]) (x := (r.least)) (h := h16) (X) Enc.nil) X X X zg Tryz.info3 X X X t_kr<|fun v22 w23 h26 le27 f24 st25=>Z X X X<|ze st25 X X X Tryz.call135 X (ziN st25.sub _ _ f24)<|fun r28 w29 h30 le31 st32 q33=> ?_
    obtain rfl := q33
    refine zT (v := (.bool _)) X X X<|zF X X<|Y<|zw<|zb Tryz.results133 ?_
    refine ⟨h30, _, rfl, st32.done, ?_⟩
    refine zx ?_
    simp_all [zgZ, inAll_one]
   refine M X X X X X<|M X X X X X<|M X X X X X<|M X X X X X<|zN (v := (.bool _)) X X X<|zF X X<|Y<|zw<|zb Tryz.results133 ?_
   refine ⟨h16, _, rfl, st18.done, ?_⟩
   refine zx ?_
   simp_all [zgZ, inAll_one]
  refine M X X X X X<|M X X X X X<|M X X X X X<|M X X X X X<|M X X X X X<|zN (v := (.bool _)) X X X<|zS X X<|M X X X X X<|M X X X X X<|M X X X X X<|M X X X X X<|zN (v := (.bool _)) X X X<|zF X X<|Y<|zw<|zb Tryz.results133 ?_
  refine ⟨h16, _, rfl, st18.done, ?_⟩
  refine zx ?_
  simp_all [zgZ, inAll_one]
 refine M X X X X X<|M X X X X X<|M X X X X X<|zN (v := (.bool _)) X X X<|zS X X<|M X X X X X<|M X X X X X<|M X X X X X<|M X X X X X<|M X X X X X<|zN (v := (.bool _)) X X X<|zS X X<|M X X X X X<|M X X X X X<|M X X X X X<|M X X X X X<|zN (v := (.bool _)) X X X<|zF X X<|Y<|zw<|zb Tryz.results133 ?_
 refine ⟨h9, _, rfl, st11.done, ?_⟩
 refine zx ?_
 simp_all [zgZ, inAll_one]
theorem c_stem_Check_2 {h0 h : Heap} {w0 w : World} {rest : Own} {m : List (Int × Bool)} {m_o : List (Nat × Obj)} {m_v : Value} (m_M : OM (fun n : Int => .int .i64 n) (fun b : Bool => .bool b) m m_o m_v) (m_N : (m.map (·.1)).Nodup) {d : Decision} (d_l2 : 0 ≤ d.kind ∧ d.kind ≤ 255) (d_l3 : d.form.length ≤ 281474976710656) (d_l7 : d.to.stem.length ≤ 281474976710656) (d_l8 : 0 ≤ d.to.mark ∧ d.to.mark ≤ 255) {numbers_b : Nat} (numbers_c : Cells h numbers_b 0 [m_v]) {t_b : Nat} {t : Text} {t_v0 : Value} (t_f0 : Sl LChapter h t_v0 t.chapters) (t_c : Cells h t_b 0 [t_v0]) (K1 : Cells h 1 0 Tryz.glob1) (ht : zbm t = true) (st0 : St h0 w0 h w (m_o :: rest)) : Calls Tryz.prog 137 #[.agg #[.int .i64 d.number, .int .u8 d.kind, strV d.form, .int .i64 d.at_.chapter, .int .i64 d.at_.line, .int .i64 d.at_.word, strV d.to.stem, .int .u8 d.to.mark, .int .i64 d.of_], .pointer (some ⟨numbers_b, 0, none⟩), .pointer (some ⟨t_b, 0, none⟩)] w (fun e_ w' => ∃ h' res_ m_o', e_ = .returned res_ ∧ Le h h' ∧ St h0 w0 h' w' (m_o' :: rest) ∧ OM (fun n : Int => .int .i64 n) (fun b : Bool => .bool b) (putM m d.number true) m_o' m_v ∧ ((putM m d.number true).map (·.1)).Nodup ∧ (res_ = .bool ((!((look m d.number).getD false) && zaj t d)))) := by
 refine zP (n := 20) Tryz.func137 X X X<|have t_f0_b:=t_f0.le;W.sr<|zJ st0 (cs := [.int .i64 (d.number), .int .u8 (d.kind), strV (d.form), .int .i64 (d.at_.chapter), .int .i64 (d.at_.line), .int .i64 (d.at_.word), strV (d.to.stem), .int .u8 (d.to.mark), .int .i64 (d.of_)]) X X X<|fun b1 w2 h3 le4 hc5 st6=>zF X X<|Y<|W.sr<|U (j := 0) st6.sub (numbers_c.up le4) X X X Tryz.isAgg207 X<|E X zo X zl X X<|U (j := 0) st6.sub hc5 X X X zz X<|zi X X (r_look (k := (d.number)) (zu := false) (zjc zbU) Tryz.underlying207 m_M (st6.ent (k := 0) X) zfw X X X)<|zF X X<|Y<|W.sr<|U (j := 0) st6.sub (numbers_c.up le4) X X X Tryz.isAgg207 X<|E X zo X zl X X<|U (j := 0) st6.sub hc5 X X X zz X<|zeu (i := 0) st6 m_M X m_N (zjc zbU) Tryz.underlying207 X (k := (d.number)) X (u := true) X<|fun o7 w8 _ e9 f10 nd11 st12=> ?_
 subst e9
 refine Y<|W.sr<|zS X X<|zbl X X<|zS X X ?_
 refine zaw (d := 15) rfl (fun g13 => ?_) (fun g13 => ?_)
 ·
  refine Z X X X<|zr st12.sub (t_c.up le4) X zbk zaA X X<|Z X X X<|zr st12.sub hc5 X zaY zX X X<|Z X X X ?_
  refine ze st12 rfl rfl rfl Tryz.call138 rfl (c_stem_decided st12.sub (t := t) (t_f0.up le4) (d := d) t_u8 zbr zbr t_u8 (K1.up le4) (by assumption)) ?_
  intro r14 w15 h16 le17 st18 q19
  obtain rfl := q19
  refine zT (v := (.bool _)) X X X<|zF X X<|Y<|zw<|zb Tryz.results137 ?_
  refine ⟨h16, _, o7, rfl, (le4.trans le17), st18, f10, nd11, ?_⟩
  refine zx ?_
  simp_all
 refine M X X X X X<|M X X X X X<|M X X X X X<|zN (v := (.bool _)) X X X<|zF X X<|Y<|zw<|zb Tryz.results137 ?_
 refine ⟨h3, _, o7, rfl, le4, st12, f10, nd11, ?_⟩
 refine zx ?_
 simp_all
theorem zhD {h : Heap} {w : World} (hs : Sub h w) {t : Text} {t_v0 : Value} (t_f0 : Sl LChapter h t_v0 t.chapters) {x : Lexicon} {x_v0 : Value} (x_f0 : Sl LRule h x_v0 x.rules) {x_v1 : Value} (x_f1 : Sl LDecision h x_v1 x.decisions) (K1 : Cells h 1 0 Tryz.glob1) : Calls Tryz.prog 96 #[.agg #[t_v0], .agg #[x_v0, x_v1]] w (Rets h w (fun _ _ res_ => res_ = .int .i64 (zaR t x))) := by
 refine zP (n := 40) Tryz.func96 X X X<|have st0:=t_s0 hs;have t_f0_b:=t_f0.le;have x_f0_b:=x_f0.le;have x_f1_b:=x_f1.le;W.sr<|zJ st0 (cs := [t_v0]) X X X<|fun b1 w2 h3 le4 hc5 st6=>zJ st6 (cs := [x_v0, x_v1]) X X X<|fun b7 w8 h9 le10 hc11 st12=>zq X X<|Y<|zj<|W.sr<|zr st12.sub (hc5.up le10) X zbk zaA X X<|have l13:=le4.trans le10;ze st12 X X X Tryz.call131 X (c_leaf_Check st12.sub (t := t) (t_f0.up l13))<|fun r14 w15 h16 le17 st18 q19=> ?_
 obtain rfl := q19
 refine zq X X<|Y<|W.sr<|zh X X<|zcf X X X<|Y ?_
 refine zC rfl (fun c20 => ?_) (fun c20 => ?_)
 ·
  refine W.sr<|zh X X<|zq X X<|Y<|zw<|zd<|zb zgl ?_
  refine ⟨h16, _, rfl, st18.done, ?_⟩
  refine zah ?_
  simp_all [zaR, zcB]
 refine zy<|O<|W.sr<|zfC (κ := Int) (υ := Bool) (ek := (fun n : Int => .int .i64 n)) (eu := (fun b : Bool => .bool b)) st18 X<|fun v21 o22 w23 f24 st25=> ?_
 obtain ⟨mb26, rfl⟩ := f24.form
 have nd27 : (([] : List (Int × Bool)).map (·.1)).Nodup := by simp
 refine zQ st25 Tryz.zeroValue207 X X<|fun b28 w29 st30=>zar st30 (k := 1) X X (v := (.map (some mb26))) X f24.one Tryz.sizeOf207 X X X<|fun w31 st32=> ?_
 obtain ⟨h33, le34, hb35, st37⟩ := st32.freeze (k := 1) rfl
 have hc36 := Cells.of hb35
 refine Y<|W.sr<|E X zag X zcq X X<|U (j := 0) st37.sub (hc11.up (le17.trans le34)) X X X zcZ X ?_
 refine ze st37 rfl rfl rfl Tryz.call132 rfl (c_stem_all_api_Rule st37.sub (x_f0.up ((l13.trans le17).trans le34)) (fun x_ => zgZ (x_)) (fun x_ h_ w_ vs_ le_ hs_ hx_ hr_ u_ hu_ => by obtain ⟨rfl, f0_, f1_⟩ := hr_; cases hu_; simp only [big] at *; exact c_stem_Check_1 hs_ (r := x_) f0_ f1_) Tryz.call133) ?_
 intro r38 w39 h40 le41 st42 q43
 obtain rfl := q43
 refine zF X X<|Y<|W.sr<|E X zag X zbN X X<|U (j := 1) st42.sub (hc11.up ((le17.trans le34).trans le41)) X X X zcr X<|zcL X X X ?_
 have ht : zbm t = true := by
  have q := c20
  cases e : zbm t with
  | true => rfl
  | false => rw [e] at q; simp at q
 have con := zib (xs := x.decisions) (v := x_v1) (g := 137) (caps := [.pointer (some ⟨b28, 0, none⟩), .pointer (some ⟨b1, 0, none⟩)]) (fun (k_ : Nat) (h_ : Heap) (w_ : World) => ∃ (m_ : List (Int × Bool)) (o_ : List (Nat × Obj)), Le h40 h_ ∧ St h w h_ w_ [o_, []] ∧ OM (fun n : Int => .int .i64 n) (fun b : Bool => .bool b) m_ o_ (.map (some mb26)) ∧ (m_.map (·.1)).Nodup ∧ (∀ n_, (look m_ n_).getD false = decide (n_ ∈ ((x.decisions).take k_).map (·.number)))) (decP t x.decisions) ?_ ?_ ?_ Tryz.call137 ⟨[], _, Le.refl _, st42, f24, nd27, by simp [look]⟩
 rotate_left
 ·rintro k_ h_ w_ ⟨m_, o_, l_, s_, _⟩
  exact ⟨s_.sub, (x_f1.up (((l13.trans le17).trans le34).trans le41)).up l_⟩
 ·rintro k_ h_ w_ h2_ w2_ ⟨m_, o_, l_, s_, q_⟩ s2_
  exact ⟨m_, o_, l_.trans s2_.le, s_.call0 s2_, q_⟩
 ·rintro k_ d_ h_ w_ vs_ ⟨m_, o_, l_, s_, hM_, hN_, hm_⟩ hx_ hr_
  obtain ⟨rfl, f0_, f1_, f2_, f3_⟩ := hr_
  simp only [big] at *
  refine (c_stem_Check_2 hM_ hN_ (d := d_) f0_ f1_ f2_ f3_ ((hc36.up le41).up l_) (t := t) ((t_f0.up (((l13.trans le17).trans le34).trans le41)).up l_) ((hc5.up (((le10.trans le17).trans le34).trans le41)).up l_) ((K1.up (((l13.trans le17).trans le34).trans le41)).up l_) (by assumption) s_).mono ?_
  rintro e_ w3_ ⟨h3_, res_, o3_, rfl, l3_, s3_, hM3_, hN3_, rfl⟩
  refine ⟨h3_, ?_, l3_, _, _, l_.trans l3_, s3_, hM3_, hN3_, ?_⟩
  ·rw [decP_some hx_, hm_]
  ·intro n_
   rw [ziI, zbf hx_, List.map_append]
   by_cases e_ : n_ = d_.number
   ·simp [e_]
   ·simp only [if_neg e_, hm_]; simp [e_]
 refine zay rfl rfl (zaV rfl Tryz.call136 rfl) (con.mono ?_)
 rintro _ w45 ⟨h46, k51, bb50, rfl, ⟨m52, o53, le54, st48, hM55, hN56, hm57⟩, hb49⟩
 refine ⟨_, rfl, ?_⟩
 clear con
 have hdB := decisions_iff hb49
 clear hb49
 subst hdB
 refine zF X X<|Y<|zj<|W.sr<|zS X X<|zbl X X<|zS X X ?_
 refine zaw (d := 24) rfl (fun g58 => ?_) (fun g58 => ?_)
 ·
  refine M X X X X X<|M X X X X X<|zT (v := (.bool _)) X X X<|zS X X<|M X X X X X<|M X X X X X<|M X X X X X<|M X X X X X<|zT (v := (.bool _)) X X X<|zS X X<|M X X X X X<|M X X X X X<|M X X X X X<|M X X X X X<|zT (v := (.bool _)) X X X<|Y ?_
  refine zae rfl (fun c59 => ?_) (fun c59 => ?_)
  ·
   refine W.sr<|zq X X<|Y<|zw<|zd<|zb zgl ?_
   refine ⟨h46, _, rfl, st48.done, ?_⟩
   refine zah ?_
   cases e : x.rules.all zgZ with
   | true => exact absurd g58 (by rw [e]; simp)
   | false => simp only [zaR, ht, zcB, e]; simp
  cases c59
 refine Z X X X<|zS X X<|Z X X X<|zbl X X<|zN (v := (.bool _)) X X X<|zS X X ?_
 refine zaw (d := 28) rfl (fun g60 => ?_) (fun g60 => ?_)
 ·
  refine M X X X X X<|M X X X X X<|M X X X X X<|M X X X X X<|zT (v := (.bool _)) X X X<|zS X X<|M X X X X X<|M X X X X X<|M X X X X X<|M X X X X X<|zT (v := (.bool _)) X X X<|Y ?_
  refine zae rfl (fun c61 => ?_) (fun c61 => ?_)
  ·
   refine W.sr<|zq X X<|Y<|zw<|zd<|zb zgl ?_
   refine ⟨h46, _, rfl, st48.done, ?_⟩
   refine zah ?_
   have q : (x.decisions.all (zaj t) && decide (x.decisions.map (·.number)).Nodup) = false := by
    cases e : (x.decisions.all (zaj t) && decide (x.decisions.map (·.number)).Nodup) with
    | true => exact absurd g60 (by rw [e]; simp)
    | false => rfl
   rw [zaR, show zcB t x = (decide (x.rules.length ≤ 12) && (decide (x.decisions.length ≤ 20) && (x.rules.all zgZ && (x.decisions.all (zaj t) && decide (x.decisions.map (·.number)).Nodup)))) from by simp only [zcB, Bool.and_assoc], q]
   simp [ht]
  cases c61
 refine Z X X X<|E X zag X zcq X X<|Z X X X<|have l62:=((le17.trans le34).trans le41).trans le54;U (j := 0) st48.sub (hc11.up l62) X X X zcZ X<|Z X X X<|have l63:=(((l13.trans le17).trans le34).trans le41).trans le54;zaH (x_f0.up l63) X zbd X<|Z X X X<|zdm X X X<|zN (v := (.bool _)) X X X<|zS X X ?_
 refine zY (d := 34) rfl (fun g64 => ?_) (fun g64 => ?_)
 ·
  refine M X X X X X<|M X X X X X<|M X X X X X<|M X X X X X<|zT (v := (.bool _)) X X X<|Y ?_
  refine zae rfl (fun c65 => ?_) (fun c65 => ?_)
  ·
   refine W.sr<|zq X X<|Y<|zw<|zd<|zb zgl ?_
   refine ⟨h46, _, rfl, st48.done, ?_⟩
   refine zah ?_
   (simp_all [zaR, zcB]; omega)
  cases c65
 refine Z X X X<|E X zag X zbN X X<|Z X X X<|U (j := 1) st48.sub (hc11.up l62) X X X zcr X<|Z X X X<|zaH (x_f1.up l63) X zaG X<|Z X X X<|zdm X X X<|zN (v := (.bool _)) X X X<|Y ?_
 refine zC rfl (fun c66 => ?_) (fun c66 => ?_)
 ·
  refine W.sr<|zq X X<|Y<|zw<|zd<|zb zgl ?_
  refine ⟨h46, _, rfl, st48.done, ?_⟩
  refine zah ?_
  (simp_all [zaR, zcB]; omega)
 refine zy<|O<|W.sr<|zq X X<|Y<|zw<|zb zgl ?_
 refine ⟨h46, _, rfl, st48.done, ?_⟩
 refine zah ?_
 (simp_all [zaR, zcB]; omega)
end Go.Pk

namespace Go.Pk
open Go Go.RowKit Go.Proofs
theorem zcC {h : Heap} {w : World} (hs : Sub h w) {s_v : Value} {s : (List Decision)} (s_f : Sl LDecision h s_v s) (hl : s.length * 88 ≤ 140737488355328) : Calls Tryz.prog 77 #[s_v] w (fun e_ w' => ∃ h' res_ o_, e_ = .returned res_ ∧ Le h h' ∧ St h w h' w' [o_] ∧ OSl LDecision 74 h' res_ (s) o_) := by
 refine zP (n := 8) Tryz.func77 X X X<|have st0:=t_s0 hs;have s_f_b:=s_f.le;W.sr<|zcM X X<|Y<|zj<|W.sr<|zR (v := s_v) X X ?_
 obtain ⟨nb1, hn2, hn2_r⟩ := Sl.nilb (P := Tryz.prog) s_f
 refine zi X X (hn2_r zaG X X)<|Y ?_
 refine zae rfl (fun c3 => ?_) (fun c3 => ?_)
 ·
  refine W.sr<|zcM X X<|Y<|zw<|zd<|zb Tryz.results77 ?_
  have st4 := st0.snoc
  have f5 := OSl.nil LDecision 74 h
  refine ⟨h, _, _, rfl, Le.refl _, st4, OSl.to f5 ?_⟩
  simp_all
 refine zy<|O<|W.sr<|zhm (L := LDecision) st0 X ⟨_, zX⟩ zaG<|fun v6 o7 w8 f9 st10=>zR (v := s_v) X X ?_
 refine zbB (k := 0) (nb := 88) st10 f9 rfl s_f rfl rfl rfl zaG Tryz.info74 rfl rfl rfl (by decide) rfl t_om t_om ?_
 intro v11 o12 w13 _ e14 f15 st16
 subst e14
 refine zaf (v := v11) X X<|Y<|zw<|zb Tryz.results77 ?_
 refine ⟨h, _, _, rfl, Le.refl _, st16, OSl.to f15 ?_⟩
 simp
theorem zeb {h : Heap} {w : World} (hs : Sub h w) {s_v : Value} {s : (List Rule)} (s_f : Sl LRule h s_v s) (hl : s.length * 40 ≤ 140737488355328) : Calls Tryz.prog 76 #[s_v] w (fun e_ w' => ∃ h' res_ o_, e_ = .returned res_ ∧ Le h h' ∧ St h w h' w' [o_] ∧ OSl LRule 68 h' res_ (s) o_) := by
 refine zP (n := 8) Tryz.func76 X X X<|have st0:=t_s0 hs;have s_f_b:=s_f.le;W.sr<|zcM X X<|Y<|zj<|W.sr<|zR (v := s_v) X X ?_
 obtain ⟨nb1, hn2, hn2_r⟩ := Sl.nilb (P := Tryz.prog) s_f
 refine zi X X (hn2_r zbd X X)<|Y ?_
 refine zae rfl (fun c3 => ?_) (fun c3 => ?_)
 ·
  refine W.sr<|zcM X X<|Y<|zw<|zd<|zb Tryz.results76 ?_
  have st4 := st0.snoc
  have f5 := OSl.nil LRule 68 h
  refine ⟨h, _, _, rfl, Le.refl _, st4, OSl.to f5 ?_⟩
  simp_all
 refine zy<|O<|W.sr<|zhm (L := LRule) st0 X ⟨_, zcV⟩ zbd<|fun v6 o7 w8 f9 st10=>zR (v := s_v) X X ?_
 refine zbB (k := 0) (nb := 40) st10 f9 rfl s_f rfl rfl rfl zbd Tryz.info68 rfl rfl rfl (by decide) rfl t_om t_om ?_
 intro v11 o12 w13 _ e14 f15 st16
 subst e14
 refine zaf (v := v11) X X<|Y<|zw<|zb Tryz.results76 ?_
 refine ⟨h, _, _, rfl, Le.refl _, st16, OSl.to f15 ?_⟩
 simp
end Go.Pk

namespace Go.Pk
open Go Go.RowKit Go.Proofs
theorem c_stem_opened_1 {h : Heap} {w : World} (hs : Sub h w) {a : Decision} (a_l2 : 0 ≤ a.kind ∧ a.kind ≤ 255) (a_l3 : a.form.length ≤ 281474976710656) (a_l7 : a.to.stem.length ≤ 281474976710656) (a_l8 : 0 ≤ a.to.mark ∧ a.to.mark ≤ 255) {b : Decision} (b_l2 : 0 ≤ b.kind ∧ b.kind ≤ 255) (b_l3 : b.form.length ≤ 281474976710656) (b_l7 : b.to.stem.length ≤ 281474976710656) (b_l8 : 0 ≤ b.to.mark ∧ b.to.mark ≤ 255) (ha : 1 ≤ a.number ∧ a.number ≤ 999) (hb : 1 ≤ b.number ∧ b.number ≤ 999) : Calls Tryz.prog 206 #[.agg #[.int .i64 a.number, .int .u8 a.kind, strV a.form, .int .i64 a.at_.chapter, .int .i64 a.at_.line, .int .i64 a.at_.word, strV a.to.stem, .int .u8 a.to.mark, .int .i64 a.of_], .agg #[.int .i64 b.number, .int .u8 b.kind, strV b.form, .int .i64 b.at_.chapter, .int .i64 b.at_.line, .int .i64 b.at_.word, strV b.to.stem, .int .u8 b.to.mark, .int .i64 b.of_]] w (Rets h w (fun _ _ res_ => res_ = .int .i64 (b.number - a.number))) := by
 refine zP (n := 10) Tryz.func206 X X X<|have st0:=t_s0 hs;W.sr<|zJ st0 (cs := [.int .i64 (a.number), .int .u8 (a.kind), strV (a.form), .int .i64 (a.at_.chapter), .int .i64 (a.at_.line), .int .i64 (a.at_.word), strV (a.to.stem), .int .u8 (a.to.mark), .int .i64 (a.of_)]) X X X<|fun b1 w2 h3 le4 hc5 st6=>zJ st6 (cs := [.int .i64 (b.number), .int .u8 (b.kind), strV (b.form), .int .i64 (b.at_.chapter), .int .i64 (b.at_.line), .int .i64 (b.at_.word), strV (b.to.stem), .int .u8 (b.to.mark), .int .i64 (b.of_)]) X X X<|fun b7 w8 h9 le10 hc11 st12=>zq X X<|Y<|W.sr<|E X zo X zl X X<|U (j := 0) st12.sub hc11 X X X zz X<|E X zo X zl X X<|U (j := 0) st12.sub (hc5.up le10) X X X zz X<|ziC X X t_om X<|zq X X<|Y<|zw<|zb Tryz.results206 ?_
 refine ⟨h9, _, rfl, st12.done, ?_⟩
 refine zah ?_
 rfl
theorem c_stem_opened {h : Heap} {w : World} (hs : Sub h w) {t : Text} {t_v0 : Value} (t_f0 : Sl LChapter h t_v0 t.chapters) {x : Lexicon} {x_v0 : Value} (x_f0 : Sl LRule h x_v0 x.rules) {x_v1 : Value} (x_f1 : Sl LDecision h x_v1 x.decisions) (hx : OkD x) (hl : x.decisions.length ≤ 25) : Calls Tryz.prog 160 #[.agg #[t_v0], .agg #[x_v0, x_v1]] w (Rets h w (fun h' _ res_ => ∃ u0, res_ = u0 ∧ Box LOffice h' true (Office.mk x t (zeP x)) u0)) := by
 refine zP (n := 67) Tryz.func160 X X X<|have st0:=t_s0 hs;have t_f0_b:=t_f0.le;have x_f0_b:=x_f0.le;have x_f1_b:=x_f1.le;W.sr<|zJ st0 (cs := [t_v0]) X X X<|fun b1 w2 h3 le4 hc5 st6=>zJ st6 (cs := [x_v0, x_v1]) X X X<|fun b7 w8 h9 le10 hc11 st12=>zaf X X<|Y<|W.sr<|zr st12.sub hc11 X zbL zaC X X<|zr st12.sub (hc5.up le10) X zbk zaA X X<|zfC (κ := Int) (υ := Decision) (ek := (fun n : Int => .int .i64 n)) (eu := (fun x : Decision => .agg [.int .i64 x.number, .int .u8 x.kind, strV x.form, .int .i64 x.at_.chapter, .int .i64 x.at_.line, .int .i64 x.at_.word, strV x.to.stem, .int .u8 x.to.mark, .int .i64 x.of_].toArray)) st12 X<|fun v13 o14 w15 f16 st17=> ?_
 obtain ⟨mb18, rfl⟩ := f16.form
 have nd19 : (([] : List (Int × Decision)).map (·.1)).Nodup := by simp
 refine zi rfl rfl (zbq (cs := [x_v0, x_v1, t_v0, (.map (some mb18))]) (by obtain ⟨_, _, rfl⟩ := Sl.form x_f0; obtain ⟨_, _, rfl⟩ := Sl.form x_f1; obtain ⟨_, _, rfl⟩ := Sl.form t_f0; kernel_rfl)) ?_
 refine zJ st17 (cs := [x_v0, x_v1, t_v0, (.map (some mb18))]) X X X<|fun b20 w21 h22 le23 hc24 st25=>v_asP X X<|Y<|W.sr<|E X zag X zbN X X<|U (j := 1) st25.sub (hc11.up le23) X X X zcr X ?_
 have l26 := (le4.trans le10).trans le23
 refine zay rfl rfl (zaV rfl Tryz.call77 rfl) ((zcC st25.sub (x_f1.up l26) (by omega)).mono ?_)
 rintro _ w28 ⟨h29, v27, o32, rfl, le30, s34, f33⟩
 refine ⟨_, rfl, ?_⟩
 have st31 := st25.call s34
 refine zaf (v := v27) X X<|Y<|W.sr<|zR (v := v27) X X ?_
 have con := sortFunc (L := LDecision) (T := 74) Tryz.sort_api_Decision zaY zX (by decide) (fun x : Decision => [.int .i64 x.number, .int .u8 x.kind, strV x.form, .int .i64 x.at_.chapter, .int .i64 x.at_.line, .int .i64 x.at_.word, strV x.to.stem, .int .u8 x.to.mark, .int .i64 x.of_]) (by rintro _ _ _ ⟨rfl, _⟩; rfl) (fun a b : Decision => b.number - a.number) (swo_desc _) (g := 206) (caps := []) (i := 1) st31 f33 rfl (by omega) Tryz.call206 ?_
 rotate_left
 ·intro a_ ha_ b_ hb_ w_ hs_
  obtain ⟨_, rfl, p0, p1, p2, p3⟩ := OSl.memR f33 ha_
  obtain ⟨_, rfl, q0, q1, q2, q3⟩ := OSl.memR f33 hb_
  simp only [big] at *
  exact c_stem_opened_1 hs_ (a := a_) p0 p1 p2 p3 (b := b_) q0 q1 q2 q3 (by have q := (hx.2 a_ ha_); omega) (by have q := (hx.2 b_ hb_); omega)
 refine zay rfl rfl (zaV rfl Tryz.call111 rfl) (con.mono ?_)
 rintro _ w35 ⟨rfl, ys36, o37, _, e38, hp39, hw40, f41, st42⟩
 subst e38
 refine ⟨_, rfl, ?_⟩
 clear con
 have hdl : (zdb x).length = x.decisions.length := (zdH x).length_eq
 have f43 := OSl.to f41 (show ys36 = (zdb x) from downD_eq hp39 hw40 hx.1)
 obtain ⟨h44, le45, f46, st47⟩ := OSl.freeze (k := 1) st42 f43 rfl t_om
 refine Y<|zj<|W.sr<|zR (v := v27) X X<|zaH f46 X zaG X<|zh X X<|Y<|zG ?_
 refine zax ([8] ++ t_rg 25 12) (G := Nat × List (Nat × Obj) × Heap) (fun ⟨k, o_15, h48⟩ => [(25, .int .i64 (k : Int))]) (fun ⟨k, o_15, h48⟩ w' => Le h44 h48 ∧ St h w h48 w' [o_15, []] ∧ (OM (fun n : Int => .int .i64 n) (fun x : Decision => .agg [.int .i64 x.number, .int .u8 x.kind, strV x.form, .int .i64 x.at_.chapter, .int .i64 x.at_.line, .int .i64 x.at_.word, strV x.to.stem, .int .u8 x.to.mark, .int .i64 x.of_].toArray) (((zdb x).take k).map zfE) o_15 (.map (some mb18))) ∧ (((((zdb x).take k).map zfE).map (·.1)).Nodup) ∧ (k ≤ (zdb x).length)) (fun ⟨k, o_15, h48⟩ => (zdb x).length - k) ⟨0, o14, h44⟩ ⟨rfl, trivial⟩ ⟨Le.refl _, st47, (by have q := f16; simpa using q), (by have q := nd19; simp), zaW⟩ ?_
 rintro ⟨k, o_15, h48⟩ _ w51 ⟨le49, st50, hM_15, hN_15, hk⟩
 refine W.sr<|zaX X X X<|Y<|zj ?_
 refine zC rfl (fun c52 => ?_) (fun c52 => ?_)
 ·
  refine zy<|O<|zj<|zG<|W.sr ?_
  obtain ⟨d, hd⟩ : ∃ y_, ((zdb x))[k]? = some y_ := t_ge (by omega)
  obtain ⟨b53, o54, _, he56, hc55, hr_d⟩ := Sl.elem (f46.up le49) hd
  obtain ⟨rfl, lu57, ls58, ls59, lu60⟩ := hr_d
  simp only [big] at ls58
  simp only [big] at ls59
  refine zU he56 X X (hk := X) (hu := zaG) (hz := zX) X<|zr st50.sub hc55 X zaY zX X X<|zQ st50 zbT X X<|fun b61 w62 st63=>zI st63 (k := 2) X X X (za X (za X (za X (za X (za X (za X (za X (za X (za X zan))))))))) zX X X X<|fun w64 st65=> ?_
  obtain ⟨h66, le67, hb68, st70⟩ := st65.freeze (k := 2) rfl
  have hc69 := Cells.of hb68
  refine Y<|have l71:=((le30.trans le45).trans le49).trans le67;zbg (er := ([], [], [], [], 0)) (dsts := [29, 30, 31, 32, 33, 34, 35]) st70 Tryz.mixed<|zc 0 [] X t_kr t_kr X X (fun hD wD τD hL hS hO  => (r_mvP X))<|zc 1 [0] X t_kr t_kr X X (fun hD wD τD hL hS hO _ _ => (zdw X))<|zc 2 [0] X t_kr t_kr X X (fun hD wD τD hL hS hO _ _ => (zB X zdI X Tryz.sizeOf233 X))<|zc 3 [0] X t_kr t_kr X X (fun hD wD τD hL hS hO _ _ => (zf (j := 3) (hL.sub hS) (hc24.up l71) X X X Tryz.isAgg233))<|zc 4 [] X t_kr t_kr X X (fun hD wD τD hL hS hO  => (zB X zo X zl X))<|zc 5 [0] X t_kr t_kr X X (fun hD wD τD hL hS hO _ _ => (zf (j := 0) (hL.sub hS) hc69 X X X zz))<|zc 6 [] X t_kr t_kr X X (fun hD wD τD hL hS hO  => (zat (hL.sub hS) hc69 X zaY zX X))<|zbO<|zbP X X X X X X ⟨t_kr, X, t_kr, X, t_kr, X, X, t_kr, (zbp X zcu)⟩<|fun hE73 w74 _ le75 st76 _ _ _ _ _ _ _ _ _ _ _ _ _ _=>zeu (i := 0) st76 hM_15 X hN_15 (zjc zbU) Tryz.underlying233 X (k := (d.number)) X (u := d) X<|fun o77 w78 _ e79 f80 nd81 st82=> ?_
  subst e79
  refine zp ⟨undef, rfl, _, _, Le.refl _, st82, ?_⟩
  intro hE83 w84 _ le85 st86 _ _ _ _ _ _ _ _ _ _ _ _ _ _
  refine AllDeps.fin X<|zO<|O<|zn<|zaM X X t_om X<|zh X X<|Y ?_
  have l88 := ((le49.trans le67).trans le75).trans le85
  refine ⟨⟨k + 1, o77, hE83⟩, ⟨rfl, trivial⟩, ?_, ⟨l88, st86.take 2, ?_, ?_, ?_⟩, ?_⟩
  ·exact zau
  ·have q := f80
   rw [map_fill (zin hx.1) hd] at q; exact q
  ·have q := nd81
   rw [map_fill (zin hx.1) hd] at q; exact q
  ·first | omega | (simp; omega)
  show (zdb x).length - ((k + 1)) < (zdb x).length - k
  omega
 refine zaI<|zm<|zm<|zam<|O<|zj<|W.sr<|zR (v := v27) X X<|zaH (f46.up le49) X zaG X<|zh X X<|Y<|zG ?_
 refine zax ([10, 11, 12] ++ t_rg 39 27) (G := Nat × List (Nat × Obj) × Heap) (fun ⟨k, o_15, h89⟩ => [(39, .int .i64 (k : Int))]) (fun ⟨k, o_15, h89⟩ w' => Le h48 h89 ∧ St h w h89 w' [o_15, []] ∧ (OM (fun n : Int => .int .i64 n) (fun x : Decision => .agg [.int .i64 x.number, .int .u8 x.kind, strV x.form, .int .i64 x.at_.chapter, .int .i64 x.at_.line, .int .i64 x.at_.word, strV x.to.stem, .int .u8 x.to.mark, .int .i64 x.of_].toArray) (((zdb x).filter (zgh x k)).map zfE) o_15 (.map (some mb18))) ∧ (((((zdb x).filter (zgh x k)).map zfE).map (·.1)).Nodup) ∧ (k ≤ (zdb x).length)) (fun ⟨k, o_15, h89⟩ => (zdb x).length - k) ⟨0, o_15, h48⟩ ⟨rfl, trivial⟩ ⟨Le.refl _, st50, (by have q := hM_15; rw [leftK_zero]; rw [List.take_of_length_le (by omega)] at q; exact q), (by have q := hN_15; rw [leftK_zero]; rw [List.take_of_length_le (by omega)] at q; exact q), zaW⟩ ?_
 rintro ⟨k, o_15, h89⟩ _ w92 ⟨le90, st91, hM_15, hN_15, hk⟩
 refine W.sr<|zaX X X X<|Y<|zj ?_
 refine zC rfl (fun c93 => ?_) (fun c93 => ?_)
 ·
  refine zy<|O<|zj<|zG<|W.sr ?_
  obtain ⟨d, hd⟩ : ∃ y_, ((zdb x))[k]? = some y_ := t_ge (by omega)
  obtain ⟨b94, o95, _, he97, hc96, hr_d⟩ := Sl.elem (f46.up (le49.trans le90)) hd
  obtain ⟨rfl, lu98, ls99, ls100, lu101⟩ := hr_d
  simp only [big] at ls99
  simp only [big] at ls100
  refine zU he97 X X (hk := X) (hu := zaG) (hz := zX) X<|zr st91.sub hc96 X zaY zX X X<|zQ st91 zbT X X<|fun b102 w103 st104=>zI st104 (k := 2) X X X (za X (za X (za X (za X (za X (za X (za X (za X (za X zan))))))))) zX X X X<|fun w105 st106=> ?_
  obtain ⟨h107, le108, hb109, st111⟩ := st106.freeze (k := 2) rfl
  have hc110 := Cells.of hb109
  refine Y<|zj<|have l112:=(((le30.trans le45).trans le49).trans le90).trans le108;zbg (er := ([6], [], [], [], 0)) (dsts := [44, 45, 46, 47, 48, 49, 50, 43, 51, 52, 11, 12]) st111 Tryz.mixed<|zc 0 [] X t_kr t_kr X X (fun hD wD τD hL hS hO  => (r_mvP X))<|zc 1 [0] X t_kr t_kr X X (fun hD wD τD hL hS hO _ _ => (zdw X))<|zc 2 [0] X t_kr t_kr X X (fun hD wD τD hL hS hO _ _ => (zB X zdI X Tryz.sizeOf233 X))<|zc 3 [0] X t_kr t_kr X X (fun hD wD τD hL hS hO _ _ => (zf (j := 3) (hL.sub hS) (hc24.up l112) X X X Tryz.isAgg233))<|zc 4 [] X t_kr t_kr X X (fun hD wD τD hL hS hO  => (zB X zo X zl X))<|zc 5 [0] X t_kr t_kr X X (fun hD wD τD hL hS hO _ _ => (zf (j := 0) (hL.sub hS) hc110 X X X zz))<|zc 6 [2, 0] X t_kr t_kr X X (fun hD wD τD hL hS hO _ _ _ _ => (r_look_ok (k := (d.number)) (zu := zcw) (zjc zbU) Tryz.underlying233 hM_15 ((hO X).ent (k := 0) X) zbT X X X))<|zc 7 [0] X t_kr t_kr X X (fun hD wD τD hL hS hO _ _ => (r_mvT X))<|zc 8 [0] X t_kr t_kr X X (fun hD wD τD hL hS hO _ _ => (zhH (v := (.agg (List.toArray _))) X X))<|zc 9 [1] X t_kr t_kr X X (fun hD wD τD hL hS hO _ _ => (zhH (v := (.bool _)) X X))<|ziB zbT X<|zbO<|zc 12 [11, 10, 9, 8, 7, 6, 5, 4, 3, 2, 1, 0] X t_kr t_kr X X (fun hD wD τD hL hS hO _ _ _ _ _ _ _ _ _ _ _ _ _ _ _ _ _ _ _ _ => (r_asB X))<|zbP X X X X X X ⟨t_kr, X, t_kr, X, t_kr, X, X, t_kr, (zbp X zcu)⟩<|fun b113=>fun hE115 w116 _ le117 st118 _ _ _ _ _ _ _ _ _ _ _ _ _ _ _ _ _ _=>zI st118 (k := 3) X X X (za X (za X (za X (za X (za X (za X (za X (za X (za X zan))))))))) zX X X X<|fun w119 st120=> ?_
  obtain ⟨h121, le122, hb123, st125⟩ := st120.freeze (k := 3) rfl
  have hc124 := Cells.of hb123
  refine zp ⟨undef, rfl, _, _, le122, st125, ?_⟩
  intro hE126 w127 _ le128 st129 _ _ _ _ _ _ _ _ _ _ _ _ _ _ _ _ _ _ _ _ _ _
  refine AllDeps.fin X<|O<|W.sr<|zS X X<|zS X X ?_
  refine zaw (d := 54) rfl (fun g131 => ?_) (fun g131 => ?_)
  ·
   refine Z X X X<|E X zo X zbu X X<|Z X X X<|U (j := 1) st129.sub (hc110.up ((le117.trans le122).trans le128)) X X X zbV X<|Z X X X<|zdd X X X<|zT (v := (.bool _)) X X X<|Y ?_
   refine zC rfl (fun c132 => ?_) (fun c132 => ?_)
   ·
    have l133 := ((l112.trans le117).trans le122).trans le128
    refine zbg (er := ([], [], [], [], 0)) (dsts := [59, 60, 61, 62, 63, 64]) st129 Tryz.mixed<|zc 0 [] X t_kr t_kr X X (fun hD wD τD hL hS hO  => (r_mvP X))<|zc 1 [0] X t_kr t_kr X X (fun hD wD τD hL hS hO _ _ => (zdw X))<|zc 2 [0] X t_kr t_kr X X (fun hD wD τD hL hS hO _ _ => (zB X zdI X Tryz.sizeOf233 X))<|zc 3 [0] X t_kr t_kr X X (fun hD wD τD hL hS hO _ _ => (zf (j := 3) (hL.sub hS) (hc24.up l133) X X X Tryz.isAgg233))<|zc 4 [] X t_kr t_kr X X (fun hD wD τD hL hS hO  => (zB X zo X zl X))<|zc 5 [0] X t_kr t_kr X X (fun hD wD τD hL hS hO _ _ => (zf (j := 8) (hL.sub hS) (hc110.up ((le117.trans le122).trans le128)) X X X zz))<|zbO<|zbP X X X X X X ⟨t_kr, X, t_kr, X, t_kr, X, X, t_kr, (zbp X zcu)⟩<|fun hE135 w136 _ le137 st138 _ _ _ _=>OpsL.mapDelete (i := 0) st138 hM_15 X hN_15 (zjc zbU) Tryz.underlying233 X (k := (d.of_)) X<|fun o139 w140 _ e141 f142 nd143 st144=> ?_
    subst e141
    refine zp ⟨undef, rfl, _, _, Le.refl _, st144, ?_⟩
    intro hE145 w146 _ le147 st148 _ _ _ _ _ _ _ _ _ _ _ _
    refine AllDeps.fin X<|zO<|O<|zn<|zaM X X t_om X<|zh X X<|Y ?_
    have l150 := (((((le90.trans le108).trans le117).trans le122).trans le128).trans le137).trans le147
    refine ⟨⟨k + 1, o139, hE145⟩, ⟨rfl, trivial⟩, ?_, ⟨l150, st148.take 2, ?_, ?_, ?_⟩, ?_⟩
    ·exact zau
    ·have q := f142
     rw [map_void hd ⟨c132, (look_left hx hd).symm.trans g131⟩] at q; exact q
    ·have q := nd143
     rw [map_void hd ⟨c132, (look_left hx hd).symm.trans g131⟩] at q; exact q
    ·first | omega | (simp; omega)
    show (zdb x).length - ((k + 1)) < (zdb x).length - k
    omega
   refine zy<|zO<|O<|zn<|zaM X X t_om X<|zh X X<|Y ?_
   have l151 := (((le90.trans le108).trans le117).trans le122).trans le128
   refine ⟨⟨k + 1, o_15, hE126⟩, ⟨rfl, trivial⟩, ?_, ⟨l151, st129.take 2, ?_, ?_, ?_⟩, ?_⟩
   ·exact zau
   ·have q := hM_15
    rw [map_stay hd (by rintro ⟨e1, _⟩; exact c132 e1)] at q; exact q
   ·have q := hN_15
    rw [map_stay hd (by rintro ⟨e1, _⟩; exact c132 e1)] at q; exact q
   ·first | omega | (simp; omega)
   show (zdb x).length - ((k + 1)) < (zdb x).length - k
   omega
  refine M X X X X X<|M X X X X X<|M X X X X X<|zN (v := (.bool _)) X X X<|Y ?_
  refine zae rfl (fun c152 => ?_) (fun c152 => ?_)
  ·
   cases c152
  refine zy<|zO<|O<|zn<|zaM X X t_om X<|zh X X<|Y ?_
  have l153 := (((le90.trans le108).trans le117).trans le122).trans le128
  refine ⟨⟨k + 1, o_15, hE126⟩, ⟨rfl, trivial⟩, ?_, ⟨l153, st129.take 2, ?_, ?_, ?_⟩, ?_⟩
  ·exact zau
  ·have q := hM_15
   rw [map_stay hd (by rintro ⟨_, e1⟩; rw [← look_left hx hd] at e1; rw [e1] at g131; cases g131)] at q; exact q
  ·have q := hN_15
   rw [map_stay hd (by rintro ⟨_, e1⟩; rw [← look_left hx hd] at e1; rw [e1] at g131; cases g131)] at q; exact q
  ·first | omega | (simp; omega)
  show (zdb x).length - ((k + 1)) < (zdb x).length - k
  omega
 refine zaI<|zm<|zm<|zam<|O<|W.sr<|v_mvP X X<|v_asP X X<|Y<|zw<|zb Tryz.results160 ?_
 obtain ⟨h154, le155, f156, st157⟩ := OM.freeze (k := 0) st91 hM_15 rfl
 have f156_r := f156.to (show _ = (zeP x) by rw [← leftK_end hx]; first | rfl | (congr 3; omega))
 have f156_l : FML (fun n : Int => .int .i64 n) (fun x : Decision => [.int .i64 x.number, .int .u8 x.kind, strV x.form, .int .i64 x.at_.chapter, .int .i64 x.at_.line, .int .i64 x.at_.word, strV x.to.stem, .int .u8 x.to.mark, .int .i64 x.of_]) LDecision h154 (zeP x) (.map (some mb18)) := ⟨f156_r, by intro p hp_; have q := (standM_mem hp_).1; obtain ⟨vs_, r_⟩ := x_f1.memR q; obtain ⟨rfl, q1⟩ := r_; exact ⟨rfl, q1⟩⟩
 refine ⟨h154, _, rfl, st157.done, ?_⟩
 refine ⟨_, rfl, Box.some ?_ (hc24.up ((((le30.trans le45).trans le49).trans le90).trans le155)) ⟨_, _, _, _, rfl, (x_f0.up (((((l26.trans le30).trans le45).trans le49).trans le90).trans le155)), (x_f1.up (((((l26.trans le30).trans le45).trans le49).trans le90).trans le155)), (t_f0.up (((((l26.trans le30).trans le45).trans le49).trans le90).trans le155)), f156_l⟩⟩
 rfl
end Go.Pk

namespace Go.Pk
open Go Go.RowKit Go.Proofs
theorem c_stem_open {h : Heap} {w : World} (hs : Sub h w) {t : Text} {t_v0 : Value} (t_f0 : Sl LChapter h t_v0 t.chapters) {x : Lexicon} {x_v0 : Value} (x_f0 : Sl LRule h x_v0 x.rules) {x_v1 : Value} (x_f1 : Sl LDecision h x_v1 x.decisions) (K1 : Cells h 1 0 Tryz.glob1) : Calls Tryz.prog 117 #[.agg #[t_v0], .agg #[x_v0, x_v1]] w (Rets h w (fun h' _ res_ => ∃ u0, res_ = .tuple #[u0, .int .i64 (zaR t x)] ∧ Box LOffice h' (decide (zaR t x = 0)) (Office.mk x t (zeP x)) u0)) := by
 refine zP (n := 16) Tryz.func117 X X X<|have st0:=t_s0 hs;have t_f0_b:=t_f0.le;have x_f0_b:=x_f0.le;have x_f1_b:=x_f1.le;W.sr<|zJ st0 (cs := [t_v0]) X X X<|fun b1 w2 h3 le4 hc5 st6=>zJ st6 (cs := [x_v0, x_v1]) X X X<|fun b7 w8 h9 le10 hc11 st12=>zaf X X<|zq X X<|Y<|zj<|W.sr<|zr st12.sub (hc5.up le10) X zbk zaA X X<|zr st12.sub hc11 X zbL zaC X X<|have l13:=le4.trans le10;ze st12 X X X Tryz.call96 X (zhD st12.sub (t := t) (t_f0.up l13) (x := x) (x_f0.up l13) (x_f1.up l13) (K1.up l13))<|fun r14 w15 h16 le17 st18 q19=> ?_
 obtain rfl := q19
 refine zq X X<|Y<|W.sr<|zh X X<|zcf X X X<|Y ?_
 refine zC rfl (fun c20 => ?_) (fun c20 => ?_)
 ·
  refine W.sr<|zh X X<|zaf X X<|zq X X<|Y<|zw<|zd<|zbb Tryz.results117 ?_
  refine ⟨h16, _, rfl, st18.done, ?_⟩
  refine ⟨_, tup2 rfl (zah ?_), Box.nil ?_⟩
  ·rfl
  simpa using c20
 refine zy<|O<|W.sr<|zr st18.sub (hc5.up (le10.trans le17)) X zbk zaA X X<|zr st18.sub (hc11.up le17) X zbL zaC X X ?_
 have l21 := l13.trans le17
 refine ze st18 rfl rfl rfl Tryz.call160 rfl (c_stem_opened st18.sub (t := t) (t_f0.up l21) (x := x) (x_f0.up l21) (x_f1.up l21) (by exact zhT (by simpa using c20)) (by have q := zhV (show zaR t x = 0 by simpa using c20); omega)) ?_
 intro r22 w23 h24 le25 st26 q27
 obtain ⟨v28, rfl, f29⟩ := q27
 obtain ⟨b30, vs31, rfl, hc32, hr33⟩ := f29
 obtain ⟨v34, v36, v38, v40, rfl, f35, f37, f39, lm41⟩ := hr33
 have f35_b := f35.le
 have f37_b := f37.le
 have f39_b := f39.le
 refine v_asP X X<|zq X X<|Y<|zw<|zbb Tryz.results117 ?_
 refine ⟨h24, _, rfl, st26.done, ?_⟩
 refine ⟨_, tup2 rfl (zah ?_), Box.some ?_ hc32 ⟨_, _, _, _, rfl, f35, f37, f39, lm41⟩⟩
 ·exact (by simpa using c20 : zaR t x = 0).symm
 simpa using c20
end Go.Pk

namespace Go.Pk
open Go Go.RowKit Go.Proofs
theorem zgx {h : Heap} {w : World} (hs : Sub h w) (s : Str) (s_le : s.length ≤ 281474976710656) (p : Str) (p_le : p.length ≤ 281474976710656) : Calls Tryz.prog 242 #[strV s, strV p] w (Rets h w (fun _ _ res_ => res_ = .bool (zgt s p))) := by
 refine zP (n := 21) Tryz.func242 X X X<|have st0:=t_s0 hs;W.sr<|zF X X<|Y<|W.sr<|zcn X X<|zcx X zaB X<|zcn X X<|zcx X zaB X<|zhq X X X<|zS X X ?_
 refine zY (d := 10) rfl (fun g1 => ?_) (fun g1 => ?_)
 ·
  refine Z X X X<|zcn X X<|Z X X X<|zcn X X<|Z X X X<|zcx X zaB X<|Z X X X<|zcn X X<|Z X X X<|zcx X zaB X<|Z X X X<|ziC X X t_om X<|Z X X X ?_
  refine zi rfl rfl (r_slice_from rfl rfl (hk := (show _ = ((s.length - p.length : Nat) : Int) by omega)) (hle := by omega) (hu := zaB)) ?_
  refine Z X X X<|zcn X X<|Z X X X<|v_seql X X X<|zT (v := (.bool _)) X X X<|zF X X<|Y<|zw<|zb Tryz.results242 ?_
  refine ⟨h, _, rfl, st0.done, ?_⟩
  refine zx ?_
  simp_all [zgt]
 refine M X X X X X<|M X X X X X<|M X X X X X<|M X X X X X<|M X X X X X<|M X X X X X<|M X X X X X<|M X X X X X<|M X X X X X<|zN (v := (.bool _)) X X X<|zF X X<|Y<|zw<|zb Tryz.results242 ?_
 refine ⟨h, _, rfl, st0.done, ?_⟩
 refine zx ?_
 (simp_all [zgt]; omega)
theorem zgy {h : Heap} {w : World} (hs : Sub h w) (s : Str) (s_le : s.length ≤ 281474976710656) (p : Str) (p_le : p.length ≤ 281474976710656) : Calls Tryz.prog 241 #[strV s, strV p] w (Rets h w (fun _ _ res_ => res_ = .tuple #[strV ((if zgt s p then s.take (s.length - p.length) else s)), .bool (zgt s p)])) := by
 refine zP (n := 18) Tryz.func241 X X X<|have st0:=t_s0 hs;W.sr<|zfD X X<|zF X X<|Y<|zj<|W.sr<|zcn X X<|zcn X X<|ze st0 X X X Tryz.call242 X (zgx st0.sub _ zbr _ zbr)<|fun r1 w2 h3 le4 st5 q6=> ?_
 obtain rfl := q6
 refine zbl X X<|Y ?_
 refine zae rfl (fun c7 => ?_) (fun c7 => ?_)
 ·
  refine W.sr<|zcn X X<|zfD X X<|zF X X<|Y<|zw<|zd<|zbb Tryz.results241 ?_
  refine ⟨h3, _, rfl, st5.done, ?_⟩
  refine tup2 (str_eq ?_) (zx ?_)
  all_goals simp_all
 refine zy<|O<|zj ?_
 have hsl : p.length ≤ s.length := by
  have q := c7
  simp [zgt] at q
  exact q.1
 refine zn<|zcn X X<|zcn X X<|zcx X zaB X<|zcn X X<|zcx X zaB X<|ziC X X t_om X ?_
 refine zi rfl rfl (r_slice_to rfl rfl (hk := (show _ = ((s.length - p.length : Nat) : Int) by omega)) (hle := by omega) (hu := zaB)) ?_
 refine zfD X X<|zF X X<|Y<|zw<|zbb Tryz.results241 ?_
 refine ⟨h3, _, rfl, st5.done, ?_⟩
 refine tup2 (str_eq ?_) (zx ?_)
 all_goals simp_all
theorem c_strings_CutSuffix {h : Heap} {w : World} (hs : Sub h w) (s : Str) (s_le : s.length ≤ 281474976710656) (p : Str) (p_le : p.length ≤ 281474976710656) : Calls Tryz.prog 238 #[strV s, strV p] w (Rets h w (fun _ _ res_ => res_ = .tuple #[strV ((if zgt s p then s.take (s.length - p.length) else s)), .bool (zgt s p)])) := by
 refine zP (n := 11) Tryz.func238 X X X<|have st0:=t_s0 hs;W.sr<|zfD X X<|zF X X<|Y<|W.sr<|zcn X X<|zcn X X<|ze st0 X X X Tryz.call241 X (zgy st0.sub _ zbr _ zbr)<|fun r1 w2 h3 le4 st5 q6=> ?_
 obtain rfl := q6
 refine zA (v := (strV _)) X X X<|zA (v := (.bool _)) X X X<|zfD X X<|zF X X<|Y<|zw<|zbb Tryz.results238 ?_
 refine ⟨h3, _, rfl, st5.done, ?_⟩
 refine tup2 (str_eq ?_) (zx ?_)
 all_goals rfl
theorem zgD {h0 h : Heap} {w0 w : World} {rest : Own} {left_b : Nat} {left : Int} {word_b : Nat} {word : Str} (word_le : word.length ≤ 281474976710656) {o_b : Nat} {o : Office} {o_v0 : Value} (o_f0 : Sl LRule h o_v0 o.lex.rules) {o_v1 : Value} (o_f1 : Sl LDecision h o_v1 o.lex.decisions) {o_v2 : Value} (o_f2 : Sl LChapter h o_v2 o.text.chapters) {o_v3 : Value} (o_f3 : FML (fun n : Int => .int .i64 n) (fun x : Decision => [.int .i64 x.number, .int .u8 x.kind, strV x.form, .int .i64 x.at_.chapter, .int .i64 x.at_.line, .int .i64 x.at_.word, strV x.to.stem, .int .u8 x.to.mark, .int .i64 x.of_]) LDecision h o.stands o_v3) (o_c : Cells h o_b 0 [o_v0, o_v1, o_v2, o_v3]) {o_bb : Nat} (o_cc : Cells h o_bb 0 [.pointer (some ⟨o_b, 0, none⟩)]) (hl : 0 ≤ left ∧ left ≤ 4) (hw12 : word.length ≤ 12) (st0 : St h0 w0 h w ([(left_b, .cells (List.toArray [.int .i64 left]) 3)] :: [(word_b, .cells (List.toArray [strV word]) 9)] :: rest)) : Calls Tryz.prog 237 #[.pointer (some ⟨left_b, 0, none⟩), .pointer (some ⟨word_b, 0, none⟩), .pointer (some ⟨o_bb, 0, none⟩)] w (fun e_ w' => ∃ h' res_ left' word', e_ = .returned res_ ∧ Le h h' ∧ St h0 w0 h' w' ([(left_b, .cells (List.toArray [.int .i64 left']) 3)] :: [(word_b, .cells (List.toArray [strV word']) 9)] :: rest) ∧ left' = turnL left ∧ word' = zig o.lex.rules left word ∧ (res_ = .tuple #[strV (zig o.lex.rules left word), .bool (turnB o.lex.rules left word)])) := by
 refine zP (n := 56) Tryz.func237 X X X<|have o_f0_b:=o_f0.le;have o_f1_b:=o_f1.le;have o_f2_b:=o_f2.le;W.sr<|zfD X X<|zF X X<|Y<|W.scope<|zj<|W.sr<|zbi (st0.get (k := 0) X) X X zz X<|zdd X X X<|Y ?_
 refine zC rfl (fun c1 => ?_) (fun c1 => ?_)
 ·
  refine W.sr<|zbi (st0.get (k := 1) X) X X zaD X<|zfD X X<|zF X X<|Y<|zw<|zd<|zev<|zbb Tryz.results237 ?_
  refine ⟨h, _, _, _, rfl, Le.refl _, st0, ?_, ?_, ?_⟩
  ·simp_all [turnL]
  ·simp_all [zig]
  refine tup2 (str_eq ?_) (zx ?_)
  ·simp_all [zig]
  simp_all [turnB]
 refine zy<|O<|W.sr<|zbi (st0.get (k := 0) X) X X zz X<|ziC X X t_om X<|zar st0 (k := 0) X X X X zl X X X<|fun w2 st3=>Y<|zj<|W.label<|O<|zj<|W.sr<|U (j := 0) st3.sub o_cc X X X Tryz.isAgg183 X<|zi X X (zdw X)<|E X zdI X zaC X X<|E X zag X zcq X X<|U (j := 0) st3.sub o_c X X X zcZ X<|zaH o_f0 X zbd X<|zh X X<|Y<|zG ?_
 refine zax ([3, 4, 6, 7, 8] ++ t_rg 20 35) (G := Nat × Heap) (fun ⟨i, h4⟩ => [(20, .int .i64 (i : Int))]) (fun ⟨i, h4⟩ w' => Le h h4 ∧ St h0 w0 h4 w' ([(left_b, .cells (List.toArray [.int .i64 (left - 1)]) 3)] :: [(word_b, .cells (List.toArray [strV word]) 9)] :: rest) ∧ (i ≤ o.lex.rules.length) ∧ ((o.lex.rules.take i).findSome? (made · word) = none)) (fun ⟨i, h4⟩ => o.lex.rules.length - i) ⟨0, h⟩ ⟨rfl, trivial⟩ ⟨Le.refl _, st3, zaW, zaW⟩ ?_
 rintro ⟨i, h4⟩ _ w7 ⟨le5, st6, hi, ht⟩
 refine W.sr<|zaX X X X<|Y<|zj ?_
 refine zC rfl (fun c8 => ?_) (fun c8 => ?_)
 ·
  refine zy<|O<|zj<|zG<|W.sr ?_
  obtain ⟨r, hr⟩ : ∃ y_, (o.lex.rules)[i]? = some y_ := t_ge (by omega)
  obtain ⟨b9, o10, _, he12, hc11, hr_r⟩ := Sl.elem (o_f0.up le5) hr
  obtain ⟨rfl, ls13, ls14⟩ := hr_r
  simp only [big] at ls13
  simp only [big] at ls14
  refine zU he12 X X (hk := X) (hu := zbd) (hz := zcV) X<|zr st6.sub hc11 X Tryz.isAgg68 zcV X X<|zjp st6 Tryz.zeroValue68 X X X (us := [strV (r.cut), strV (r.put), .int .i64 (r.least)]) (fun _ => X) (za X (za X (za X zan))) zcV X<|fun b15 w16 h17 le18 hc19 st20=>Y<|W.sr<|zbi (st20.get (k := 1) X) X X zaD X<|E X zbG X zak X X<|U (j := 0) st20.sub hc19 X X X zaD X<|ze st20 X X X Tryz.call238 X (c_strings_CutSuffix st20.sub _ zbr _ zbr)<|fun r21 w22 h23 le24 st25 q26=> ?_
  obtain rfl := q26
  have hrl : (if zgt (word) (r.cut) then (word).take ((word).length - (r.cut).length) else (word)).length ≤ word.length := by split <;> simp
  refine zbY X X<|zA (v := (strV _)) X X X<|zA (v := (.bool _)) X X X<|zfD X X<|zF X X<|Y<|zj<|W.sr<|zS X X<|zbl X X<|zS X X ?_
  refine zaw (d := 33) rfl (fun g27 => ?_) (fun g27 => ?_)
  ·
   refine M X X X X X<|M X X X X X<|M X X X X X<|M X X X X X<|M X X X X X<|zT (v := (.bool _)) X X X<|zS X X<|M X X X X X<|M X X X X X<|M X X X X X<|M X X X X X<|M X X X X X<|M X X X X X<|M X X X X X<|zT (v := (.bool _)) X X X<|Y ?_
   refine zae rfl (fun c28 => ?_) (fun c28 => ?_)
   ·
    refine zaI<|zm<|zam<|O<|zn<|zaM X X t_om X<|zh X X<|Y ?_
    have l29 := (le5.trans le18).trans le24
    refine ⟨⟨i + 1, h23⟩, ⟨rfl, trivial⟩, ?_, ⟨l29, st25, ?_, ?_⟩, ?_⟩
    ·exact zau
    ·first | omega | (simp; omega)
    ·exact turn_take ht hr (made_no (fun qh _ => by rw [qh] at g27; cases g27))
    show o.lex.rules.length - ((i + 1)) < o.lex.rules.length - i
    omega
   cases c28
  refine Z X X X<|zcn X X<|Z X X X<|zcx X zaB X<|Z X X X<|E X zbG X zl X X<|Z X X X<|U (j := 2) st25.sub (hc19.up le24) X X X zz X<|Z X X X<|zaX X X X<|zN (v := (.bool _)) X X X<|zS X X ?_
  refine zY (d := 40) rfl (fun g30 => ?_) (fun g30 => ?_)
  ·
   refine M X X X X X<|M X X X X X<|M X X X X X<|M X X X X X<|M X X X X X<|M X X X X X<|M X X X X X<|zT (v := (.bool _)) X X X<|Y ?_
   refine zae rfl (fun c31 => ?_) (fun c31 => ?_)
   ·
    refine zaI<|zm<|zam<|O<|zn<|zaM X X t_om X<|zh X X<|Y ?_
    have l32 := (le5.trans le18).trans le24
    refine ⟨⟨i + 1, h23⟩, ⟨rfl, trivial⟩, ?_, ⟨l32, st25, ?_, ?_⟩, ?_⟩
    ·exact zau
    ·first | omega | (simp; omega)
    ·exact turn_take ht hr (made_no (fun qh q => by rw [if_pos qh] at g30; omega))
    show o.lex.rules.length - ((i + 1)) < o.lex.rules.length - i
    omega
   cases c31
  refine Z X X X<|zcn X X<|Z X X X<|zcx X zaB X<|Z X X X<|E X zbG X zak X X<|Z X X X<|U (j := 1) st25.sub (hc19.up le24) X X X zaD X<|Z X X X<|zcx X zaB X<|Z X X X<|zaM X X t_om X<|Z X X X<|zdm X X X<|zN (v := (.bool _)) X X X<|Y ?_
  refine zC rfl (fun c33 => ?_) (fun c33 => ?_)
  ·
   refine zaI<|zm<|zam<|O<|zn<|zaM X X t_om X<|zh X X<|Y ?_
   have l34 := (le5.trans le18).trans le24
   refine ⟨⟨i + 1, h23⟩, ⟨rfl, trivial⟩, ?_, ⟨l34, st25, ?_, ?_⟩, ?_⟩
   ·exact zau
   ·first | omega | (simp; omega)
   ·exact turn_take ht hr (made_no (fun qh q => by rw [if_pos qh] at c33; omega))
   show o.lex.rules.length - ((i + 1)) < o.lex.rules.length - i
   omega
  refine zy<|O<|W.sr<|zcn X X<|E X zbG X zak X X<|U (j := 1) st25.sub (hc19.up le24) X X X zaD X<|zi X X (r_sadd X X t_om)<|zar st25 (k := 1) X X X X zak X X X<|fun w35 st36=>Y<|W.sr<|zbi (st36.get (k := 1) X) X X zaD X<|zfD X X<|zF X X<|Y<|zw<|zK<|zd<|zd<|zK<|zd<|zev<|zbb Tryz.results237 ?_
  have qh : zgt word r.cut = true := by simpa using g27
  have em := made_yes qh (by have q := g30; rw [if_pos qh] at q; omega) (by have q := c33; rw [if_pos qh] at q; omega)
  have es := stepOf_at ht hr em
  have hl0 : ¬ left = 0 := c1
  simp only [if_pos qh]
  refine ⟨h23, _, _, _, rfl, ((le5.trans le18).trans le24), st36, ?_, ?_, ?_⟩
  ·simp [turnL, hl0]
  ·simp [zig, hl0, es, qh]
  refine tup2 (str_eq ?_) (zx ?_)
  ·simp [zig, hl0, es]
  simp [turnB, hl0, es]
 refine zaI<|zm<|zm<|zam<|O<|W.sr<|zbi (st6.get (k := 1) X) X X zaD X<|zfD X X<|zF X X<|Y<|zw<|zev<|zbb Tryz.results237 ?_
 have es := stepOf_none ht (by omega)
 have hl0 : ¬ left = 0 := c1
 refine ⟨h4, _, _, _, rfl, le5, st6, ?_, ?_, ?_⟩
 ·simp [turnL, hl0]
 ·simp [zig, hl0, es]
 refine tup2 (str_eq ?_) (zx ?_)
 ·simp [zig, hl0, es]
 simp [turnB, hl0, es]
end Go.Pk

namespace Go.Pk
open Go Go.RowKit Go.Proofs
theorem c_stem_office_turns {h : Heap} {w : World} (hs : Sub h w) {o_b : Nat} {o : Office} {o_v0 : Value} (o_f0 : Sl LRule h o_v0 o.lex.rules) {o_v1 : Value} (o_f1 : Sl LDecision h o_v1 o.lex.decisions) {o_v2 : Value} (o_f2 : Sl LChapter h o_v2 o.text.chapters) {o_v3 : Value} (o_f3 : FML (fun n : Int => .int .i64 n) (fun x : Decision => [.int .i64 x.number, .int .u8 x.kind, strV x.form, .int .i64 x.at_.chapter, .int .i64 x.at_.line, .int .i64 x.at_.word, strV x.to.stem, .int .u8 x.to.mark, .int .i64 x.of_]) LDecision h o.stands o_v3) (o_c : Cells h o_b 0 [o_v0, o_v1, o_v2, o_v3]) (word : Str) (word_le : word.length ≤ 281474976710656) : Calls Tryz.prog 228 #[.pointer (some ⟨o_b, 0, none⟩), strV word] w (fun e_ w' => ∃ h' bl bw bo, e_ = .returned (.func (.func 237) #[] #[.pointer (some ⟨bl, 0, none⟩), .pointer (some ⟨bw, 0, none⟩), .pointer (some ⟨bo, 0, none⟩)]) ∧ Le h h' ∧ St h w h' w' [[(bw, .cells [strV word].toArray 9)], [(bl, .cells [.int .i64 4].toArray 3)]] ∧ Cells h' bo 0 [.pointer (some ⟨o_b, 0, none⟩)]) := by
 refine zP (n := 7) Tryz.func228 X X X<|have st0:=t_s0 hs;have o_f0_b:=o_f0.le;have o_f1_b:=o_f1.le;have o_f2_b:=o_f2.le;W.sr<|zJ st0 (cs := [.pointer (some ⟨o_b, 0, none⟩)]) X X X<|fun b1 w2 h3 le4 hc5 st6=>OpsL.boxO st6 (cs := [strV word]) X X X<|fun b7 w8 st9=>zaf X X<|Y<|W.sr<|zQ st9 Tryz.zeroValue3 X X<|fun b10 w11 st12=>zar st12 (k := 1) X X X X zl X X X<|fun w13 st14=>Y<|W.sr<|zcL X X X<|zi X X (r_asF X)<|Y<|zw<|zb Tryz.results228 ?_
 exact ⟨h3, _, _, _, rfl, le4, st14, hc5⟩
theorem c_stem_office_steps {h : Heap} {w : World} (hs : Sub h w) {o_b : Nat} {o : Office} {o_v0 : Value} (o_f0 : Sl LRule h o_v0 o.lex.rules) {o_v1 : Value} (o_f1 : Sl LDecision h o_v1 o.lex.decisions) {o_v2 : Value} (o_f2 : Sl LChapter h o_v2 o.text.chapters) {o_v3 : Value} (o_f3 : FML (fun n : Int => .int .i64 n) (fun x : Decision => [.int .i64 x.number, .int .u8 x.kind, strV x.form, .int .i64 x.at_.chapter, .int .i64 x.at_.line, .int .i64 x.at_.word, strV x.to.stem, .int .u8 x.to.mark, .int .i64 x.of_]) LDecision h o.stands o_v3) (o_c : Cells h o_b 0 [o_v0, o_v1, o_v2, o_v3]) (word : Str) (word_le : word.length ≤ 281474976710656) (hw : word.length ≤ 12) : Calls Tryz.prog 195 #[.pointer (some ⟨o_b, 0, none⟩), strV word] w (Rets h w (fun h' _ res_ => ∃ u0, res_ = u0 ∧ Sl LStr h' u0 (zdF o.lex.rules 4 word))) := by
 refine zP (n := 30) Tryz.func195 X X X<|have st0:=t_s0 hs;have o_f0_b:=o_f0.le;have o_f1_b:=o_f1.le;have o_f2_b:=o_f2.le;W.sr<|zcM X X<|Y<|W.sr<|zcn X X<|OpsL.sliceO (L := LStr) (xs := [word]) (cs := [strV word]) st0 (Enc.cons (L := LStr) (vs := [strV word]) (x := word) (h := h) (⟨rfl, zbr⟩) Enc.nil) X X X zV Tryz.info9 X X X X t_kr<|fun v1 o5 w2 f3 st4=>zaf (v := v1) X X<|Y<|W.sr<|v_mvP X X<|zcn X X ?_
 refine zay rfl rfl (zaV rfl Tryz.call228 rfl) ((c_stem_office_turns st4.sub (o := o) o_f0 o_f1 o_f2 o_f3 o_c _ zbr).mono ?_)
 rintro _ w6 ⟨h7, bl8, bw9, bo10, rfl, le11, s12, hc13⟩
 refine ⟨_, rfl, ?_⟩
 have st14 := st4.call s12
 refine zaf (v := (.func (.func 237) #[] #[.pointer (some ⟨bl8, 0, none⟩), .pointer (some ⟨bw9, 0, none⟩), .pointer (some ⟨bo10, 0, none⟩)])) X X<|Y<|zj<|W.sr<|zR (v := (.func (.func 237) #[] #[.pointer (some ⟨bl8, 0, none⟩), .pointer (some ⟨bw9, 0, none⟩), .pointer (some ⟨bo10, 0, none⟩)])) X X ?_
 have con := zgD (left_b := bl8) (left := 4) (word_b := bw9) (word := word) (by omega) (o := o) (o_f0.up le11) (o_f1.up le11) (o_f2.up le11) (o_f3.up le11) (o_c.up le11) hc13 (by omega) (by exact hw) (st14.perm (List.reverse_perm _).symm)
 refine zay rfl rfl (zca (fs := []) (cs := [.pointer (some ⟨bl8, 0, none⟩), .pointer (some ⟨bw9, 0, none⟩), .pointer (some ⟨bo10, 0, none⟩)]) rfl rfl Tryz.call237 rfl) (con.mono ?_)
 rintro _ w15 ⟨h16, _, l17, w18, rfl, le19, s20, rfl, rfl, rfl⟩
 refine ⟨_, rfl, ?_⟩
 clear con
 have st21 := s20.perm (List.reverse_perm _).symm
 refine zbY X X<|zA (v := (strV _)) X X X<|zA (v := (.bool _)) X X X<|zfD X X<|zF X X<|Y<|zG ?_
 have l26 := le11.trans le19
 refine zax ([5, 7, 8] ++ t_rg 19 10) (G := Nat × List Str × Str × Str × Bool × Int × Value × List (Nat × Obj) × Heap) (fun ⟨k, ini, la, cw, tb, lf, v_5, o_5, h23⟩ => [(5, v_5), (7, strV cw), (8, .bool tb)]) (fun ⟨k, ini, la, cw, tb, lf, v_5, o_5, h23⟩ w' => Le h16 h23 ∧ St h w h23 w' [o_5, [(bw9, .cells (List.toArray [strV cw]) 9)], [(bl8, .cells (List.toArray [.int .i64 lf]) 3)]] ∧ (OSl LStr 9 h23 v_5 (ini ++ [la]) o_5) ∧ (k ≤ 4) ∧ (ini.length = k) ∧ (la.length ≤ 12) ∧ (cw.length ≤ 12) ∧ (0 ≤ lf ∧ lf ≤ 4) ∧ (zdF o.lex.rules 4 word = ini ++ zdF o.lex.rules (4 - k) la) ∧ (tb = true → k < 4 ∧ zgH o.lex.rules la = some cw ∧ lf = 3 - k) ∧ (tb = false → zdF o.lex.rules (4 - k) la = [la])) (fun ⟨k, ini, la, cw, tb, lf, v_5, o_5, h23⟩ => 4 - k) ⟨0, [], word, (zig o.lex.rules 4 word), (turnB o.lex.rules 4 word), (turnL 4), v1, o5, h16⟩ ⟨rfl, rfl, rfl, trivial⟩ ⟨Le.refl _, st21, (OSl.to (f3.up l26) (by rfl)), zaW, (by rfl), (by exact hw), (by exact turnW_len hw), (by decide), (by rfl), (by exact fun q => ⟨by omega, (turn_true q).2, by decide⟩), (by exact fun q => turn_false q (by rfl))⟩ ?_
 rintro ⟨k, ini, la, cw, tb, lf, v_5, o_5, h23⟩ _ w27 ⟨le24, st25, hO_5, hk, hn, hla, hcw, hlf, hq, ht, hf⟩
 refine zj<|W.sr<|zS X X<|Y ?_
 refine zae rfl (fun c28 => ?_) (fun c28 => ?_)
 ·
  refine zy<|O<|zj<|zG<|zn<|zR (v := v_5) X X<|zcn X X<|zac (L := LStr) (xs := [cw]) (cs := [strV cw]) st25 (Enc.cons (L := LStr) (vs := [strV cw]) (x := cw) (h := h23) (⟨rfl, zbr⟩) Enc.nil) X X X zV Tryz.info9 X X X t_kr<|fun v29 w30 h33 le34 f31 st32=> ?_
  refine zbB (k := 0) (nb := 16) st32 (hO_5.up le34) rfl f31 rfl rfl rfl zV Tryz.info9 rfl rfl rfl (by decide) rfl (by simp [hn]; omega) (by simp [hn]; omega) ?_
  intro v35 o36 w37 _ e38 f39 st40
  subst e38
  refine zaf (v := v35) X X<|zp<|zO<|O<|zn<|zR (v := (.func (.func 237) #[] #[.pointer (some ⟨bl8, 0, none⟩), .pointer (some ⟨bw9, 0, none⟩), .pointer (some ⟨bo10, 0, none⟩)])) X X ?_
  have con := zgD (left_b := bl8) (left := lf) (word_b := bw9) (word := cw) (by omega) (o := o) (o_f0.up ((l26.trans le24).trans le34)) (o_f1.up ((l26.trans le24).trans le34)) (o_f2.up ((l26.trans le24).trans le34)) (o_f3.up ((l26.trans le24).trans le34)) (o_c.up ((l26.trans le24).trans le34)) (hc13.up ((le19.trans le24).trans le34)) (by omega) (by exact hcw) (st40.perm (List.reverse_perm _).symm)
  refine zay rfl rfl (zca (fs := []) (cs := [.pointer (some ⟨bl8, 0, none⟩), .pointer (some ⟨bw9, 0, none⟩), .pointer (some ⟨bo10, 0, none⟩)]) rfl rfl Tryz.call237 rfl) (con.mono ?_)
  rintro _ w41 ⟨h42, _, l43, w44, rfl, le45, s46, rfl, rfl, rfl⟩
  refine ⟨_, rfl, ?_⟩
  clear con
  have st47 := s46.perm (List.reverse_perm _).symm
  refine zbY X X<|zA (v := (strV _)) X X X<|zA (v := (.bool _)) X X X<|zfD X X<|zF X X<|Y ?_
  have q1 := ht c28
  refine ⟨⟨k + 1, ini ++ [la], cw, (zig o.lex.rules lf cw), (turnB o.lex.rules lf cw), (turnL lf), v35, o36, h42⟩, ⟨rfl, rfl, rfl, trivial⟩, ?_, ⟨((le24.trans le34).trans le45), st47, ?_, ?_, ?_, ?_, ?_, ?_, ?_, ?_, ?_⟩, ?_⟩
  ·exact zau
  ·refine OSl.to (f39.up le45) ?_
   rfl
  ·omega
  ·simp [hn]
  ·exact hcw
  ·exact turnW_len hcw
  ·unfold turnL; split <;> omega
  ·rw [hq, stepsN_some (show 4 - k = (4 - (k + 1)) + 1 by omega) q1.2.1]; simp
  ·exact fun q => ⟨by have := (turn_true q).1; omega, (turn_true q).2, by have := (turn_true q).1; unfold turnL; rw [if_neg this]; omega⟩
  ·exact fun q => turn_false q (by omega)
  show 4 - ((k + 1)) < 4 - k
  omega
 refine zaI<|zm<|zm<|zam<|O<|W.sr<|zR (v := v_5) X X<|zaf (v := v_5) X X<|Y<|zw<|zb Tryz.results195 ?_
 obtain ⟨h49, le50, f51, st52⟩ := OSl.freeze (k := 0) st25 hO_5 rfl (by simp [hn]; omega)
 refine ⟨h49, _, rfl, st52.done, ?_⟩
 refine ⟨_, rfl, Sl.to f51 ?_⟩
 rw [hq, hf (by simpa using c28)]
end Go.Pk

namespace Go.Pk
open Go Go.RowKit Go.Proofs
theorem c_postilref01_Great {h : Heap} {w : World} (hs : Sub h w) {t : Text} {t_v0 : Value} (t_f0 : Sl LChapter h t_v0 t.chapters) : Calls Tryz.prog 50 #[.agg #[t_v0]] w (Rets h w (fun _ _ res_ => res_ = .bool ((!zfe t)))) := by
 refine zP (n := 75) Tryz.func50 X X X<|have st0:=t_s0 hs;have t_f0_b:=t_f0.le;W.sr<|zJ st0 (cs := [t_v0]) X X X<|fun b1 w2 h3 le4 hc5 st6=>zF X X<|Y<|zj<|W.sr<|E X zaP X zbx X X<|U (j := 0) st6.sub hc5 X X X zbW X<|zaH (t_f0.up le4) X zaK X<|zdm X X X<|Y ?_
 refine zC rfl (fun c7 => ?_) (fun c7 => ?_)
 ·
  refine W.sr<|zF X X<|Y<|zw<|zd<|zb Tryz.results50 ?_
  refine ⟨h3, _, rfl, st6.done, ?_⟩
  refine zx ?_
  simp [zfe]; intros; omega
 refine zy<|O<|zj<|W.sr<|zq X X<|Y<|zG ?_
 refine zax ([2, 3, 4, 5] ++ t_rg 10 65) (G := Nat × Heap) (fun ⟨i, h8⟩ => [(3, .int .i64 (i : Int))]) (fun ⟨i, h8⟩ w' => Le h3 h8 ∧ St h w h8 w' [] ∧ (i ≤ t.chapters.length) ∧ ((t.chapters.take i).all zfV = true)) (fun ⟨i, h8⟩ => t.chapters.length - i) ⟨0, h3⟩ ⟨rfl, trivial⟩ ⟨Le.refl _, st6, zaW, zaW⟩ ?_
 rintro ⟨i, h8⟩ _ w11 ⟨le9, st10, hi, hA⟩
 refine zj<|W.sr<|zh X X<|E X zaP X zbx X X<|U (j := 0) st10.sub (hc5.up le9) X X X zbW X<|have l12:=le4.trans le9;zaH (t_f0.up l12) X zaK X<|zaX X X X<|Y ?_
 refine zC rfl (fun c13 => ?_) (fun c13 => ?_)
 ·
  refine zy<|O<|zj<|zG<|zj<|W.sr<|E X zaP X zbx X X<|U (j := 0) st10.sub (hc5.up le9) X X X zbW X<|zh X X ?_
  obtain ⟨c, hc⟩ : ∃ y_, (t.chapters)[i]? = some y_ := t_ge (by omega)
  obtain ⟨b14, o15, _, he17, hc16, hr_c⟩ := Sl.elem (t_f0.up l12) hc
  obtain ⟨v18, rfl, f19⟩ := hr_c
  have f19_b := f19.le
  refine zU he17 X X (hk := X) (hu := zaK) (hz := zbA) X<|E X zaJ X zbH X X<|U (j := 1) st10.sub hc16 X X X zcm X<|zaH f19 X zaO X<|zdm X X X<|Y ?_
  refine zC rfl (fun c20 => ?_) (fun c20 => ?_)
  ·
   refine W.sr<|zF X X<|Y<|zw<|zd<|zK<|zd<|zd<|zK<|zd<|zb Tryz.results50 ?_
   refine ⟨h8, _, rfl, st10.done, ?_⟩
   refine zx ?_
   have q0 : zfV c = false := by simp [zfV]; intros; omega
   have q := zcG (p := zfV) hc q0
   simp [zfe, q]
  refine zy<|O<|W.sr<|zq X X<|Y<|zG ?_
  refine zax ([2, 4, 5] ++ t_rg 25 50) (G := Nat × Heap) (fun ⟨k, h21⟩ => [(4, .int .i64 (k : Int))]) (fun ⟨k, h21⟩ w' => Le h8 h21 ∧ St h w h21 w' [] ∧ (k ≤ c.lines.length) ∧ ((c.lines.take k).all zhQ = true)) (fun ⟨k, h21⟩ => c.lines.length - k) ⟨0, h8⟩ ⟨rfl, trivial⟩ ⟨Le.refl _, st10, zaW, zaW⟩ ?_
  rintro ⟨k, h21⟩ _ w24 ⟨le22, st23, hk, hB⟩
  refine zj<|W.sr<|zh X X<|E X zaP X zbx X X<|U (j := 0) st23.sub (hc5.up (le9.trans le22)) X X X zbW X<|zh X X<|zU he17 X X (hk := X) (hu := zaK) (hz := zbA) X<|E X zaJ X zbH X X<|U (j := 1) st23.sub (hc16.up le22) X X X zcm X<|zaH (f19.up le22) X zaO X<|zaX X X X<|Y ?_
  refine zC rfl (fun c25 => ?_) (fun c25 => ?_)
  ·
   refine zy<|O<|zj<|zG<|zj<|W.sr<|E X zaP X zbx X X<|U (j := 0) st23.sub (hc5.up (le9.trans le22)) X X X zbW X<|zh X X<|zU he17 X X (hk := X) (hu := zaK) (hz := zbA) X<|E X zaJ X zbH X X<|U (j := 1) st23.sub (hc16.up le22) X X X zcm X<|zh X X ?_
   obtain ⟨ln, hln⟩ : ∃ y_, (c.lines)[k]? = some y_ := t_ge (by omega)
   obtain ⟨b26, o27, _, he29, hc28, hr_ln⟩ := Sl.elem (f19.up le22) hln
   obtain ⟨v30, rfl, f31⟩ := hr_ln
   have f31_b := f31.le
   refine zU he29 X X (hk := X) (hu := zaO) (hz := zdK) X<|U (j := 0) st23.sub hc28 X X X zee X<|zaH f31 X zV X<|zdm X X X<|Y ?_
   refine zC rfl (fun c32 => ?_) (fun c32 => ?_)
   ·
    refine W.sr<|zF X X<|Y<|zw<|zd<|zK<|zd<|zd<|zK<|zK<|zd<|zd<|zK<|zd<|zb Tryz.results50 ?_
    refine ⟨h21, _, rfl, st23.done, ?_⟩
    refine zx ?_
    have q1 : zhQ ln = false := by simp [zhQ]; intros; omega
    have q2 := zcG (p := zhQ) hln q1
    have q0 : zfV c = false := by simp [zfV, q2]
    have q := zcG (p := zfV) hc q0
    simp [zfe, q]
   refine zy<|O<|W.sr<|zq X X<|Y<|zG ?_
   refine zax ([2, 5] ++ t_rg 47 28) (G := Nat × Heap) (fun ⟨m, h33⟩ => [(5, .int .i64 (m : Int))]) (fun ⟨m, h33⟩ w' => Le h21 h33 ∧ St h w h33 w' [] ∧ (m ≤ ln.length) ∧ ((ln.take m).all smallW = true)) (fun ⟨m, h33⟩ => ln.length - m) ⟨0, h21⟩ ⟨rfl, trivial⟩ ⟨Le.refl _, st23, zaW, zaW⟩ ?_
   rintro ⟨m, h33⟩ _ w36 ⟨le34, st35, hm, hC⟩
   refine zj<|W.sr<|zh X X<|E X zaP X zbx X X<|U (j := 0) st35.sub (hc5.up ((le9.trans le22).trans le34)) X X X zbW X<|zh X X<|zU he17 X X (hk := X) (hu := zaK) (hz := zbA) X<|E X zaJ X zbH X X<|U (j := 1) st35.sub (hc16.up (le22.trans le34)) X X X zcm X<|zh X X<|zU he29 X X (hk := X) (hu := zaO) (hz := zdK) X<|U (j := 0) st35.sub (hc28.up le34) X X X zee X<|zaH (f31.up le34) X zV X<|zaX X X X<|Y ?_
   refine zC rfl (fun c37 => ?_) (fun c37 => ?_)
   ·
    refine zy<|O<|zj<|zG<|W.sr<|E X zaP X zbx X X<|U (j := 0) st35.sub (hc5.up ((le9.trans le22).trans le34)) X X X zbW X<|zh X X<|zU he17 X X (hk := X) (hu := zaK) (hz := zbA) X<|E X zaJ X zbH X X<|U (j := 1) st35.sub (hc16.up (le22.trans le34)) X X X zcm X<|zh X X<|zU he29 X X (hk := X) (hu := zaO) (hz := zdK) X<|U (j := 0) st35.sub (hc28.up le34) X X X zee X<|zh X X ?_
    obtain ⟨wd, hwd⟩ : ∃ y_, (ln)[m]? = some y_ := t_ge (by omega)
    obtain ⟨b38, o39, _, he41, hc40, hr_wd⟩ := Sl.elem (f31.up le34) hwd
    obtain ⟨rfl, ls42⟩ := hr_wd
    simp only [big] at ls42
    refine zU he41 X X (hk := X) (hu := zV) (hz := zak) X<|U (j := 0) st35.sub hc40 X X X zaD X<|zcx X zaB X<|zdm X X X<|Y ?_
    refine zC rfl (fun c43 => ?_) (fun c43 => ?_)
    ·
     refine W.sr<|zF X X<|Y<|zw<|zK<|zd<|zd<|zK<|zK<|zd<|zd<|zK<|zK<|zd<|zd<|zK<|zd<|zb Tryz.results50 ?_
     refine ⟨h33, _, rfl, st35.done, ?_⟩
     refine zx ?_
     have q3 := zcG (p := smallW) hwd (by simp [smallW]; omega)
     have q1 : zhQ ln = false := by simp [zhQ, q3]
     have q2 := zcG (p := zhQ) hln q1
     have q0 : zfV c = false := by simp [zfV, q2]
     have q := zcG (p := zfV) hc q0
     simp [zfe, q]
    refine zy<|zO<|O<|zn<|zh X X<|zaM X X t_om X<|zq X X<|Y ?_
    refine ⟨⟨m + 1, h33⟩, ⟨rfl, trivial⟩, ?_, ⟨le34, st35, ?_, ?_⟩, ?_⟩
    ·exact zau
    ·first | omega | (simp; omega)
    ·exact zct hC hwd (by have q := c43; simp [smallW]; omega)
    show ln.length - ((m + 1)) < ln.length - m
    omega
   refine zaI<|zm<|zm<|zam<|zO<|O<|zn<|zh X X<|zaM X X t_om X<|zq X X<|Y ?_
   have HL : zhQ ln = true := by
    have q := zcX hC (by omega)
    have q1 := c37
    simp [zhQ, q]; omega
   refine ⟨⟨k + 1, h33⟩, ⟨rfl, trivial⟩, ?_, ⟨(le22.trans le34), st35, ?_, ?_⟩, ?_⟩
   ·exact zau
   ·first | omega | (simp; omega)
   ·exact zct hB hln HL
   show c.lines.length - ((k + 1)) < c.lines.length - k
   omega
  refine zaI<|zm<|zm<|zam<|zO<|O<|zn<|zh X X<|zaM X X t_om X<|zq X X<|Y ?_
  have HC : zfV c = true := by
   have q := zcX hB (by omega)
   have q1 := c25
   simp [zfV, q]; omega
  refine ⟨⟨i + 1, h21⟩, ⟨rfl, trivial⟩, ?_, ⟨(le9.trans le22), st23, ?_, ?_⟩, ?_⟩
  ·exact zau
  ·first | omega | (simp; omega)
  ·exact zct hA hc HC
  show t.chapters.length - ((i + 1)) < t.chapters.length - i
  omega
 refine zaI<|zm<|zm<|zam<|O<|W.sr<|zF X X<|Y<|zw<|zb Tryz.results50 ?_
 refine ⟨h8, _, rfl, st10.done, ?_⟩
 refine zx ?_
 have q := zcX hA (by omega)
 simp [zfe, q]; omega
theorem c_postilref04_Great {h : Heap} {w : World} (hs : Sub h w) {x : Lexicon} {x_v0 : Value} (x_f0 : Sl LRule h x_v0 x.rules) {x_v1 : Value} (x_f1 : Sl LDecision h x_v1 x.decisions) : Calls Tryz.prog 51 #[.agg #[x_v0, x_v1]] w (Rets h w (fun _ _ res_ => res_ = .bool ((!zfd x)))) := by
 refine zP (n := 64) Tryz.func51 X X X<|have st0:=t_s0 hs;have x_f0_b:=x_f0.le;have x_f1_b:=x_f1.le;W.sr<|zJ st0 (cs := [x_v0, x_v1]) X X X<|fun b1 w2 h3 le4 hc5 st6=>zF X X<|Y<|zj<|W.sr<|E X zag X zcq X X<|U (j := 0) st6.sub hc5 X X X zcZ X<|zaH (x_f0.up le4) X zbd X<|zdm X X X<|zS X X ?_
 refine zY (d := 10) rfl (fun g7 => ?_) (fun g7 => ?_)
 ·
  refine M X X X X X<|M X X X X X<|M X X X X X<|M X X X X X<|zT (v := (.bool _)) X X X<|Y ?_
  refine zae rfl (fun c8 => ?_) (fun c8 => ?_)
  ·
   refine W.sr<|zF X X<|Y<|zw<|zd<|zb zfk ?_
   refine ⟨h3, _, rfl, st6.done, ?_⟩
   refine zx ?_
   (simp [zfd]; intros; omega)
  cases c8
 refine Z X X X<|E X zag X zbN X X<|Z X X X<|U (j := 1) st6.sub hc5 X X X zcr X<|Z X X X<|zaH (x_f1.up le4) X zaG X<|Z X X X<|zdm X X X<|zN (v := (.bool _)) X X X<|Y ?_
 refine zC rfl (fun c9 => ?_) (fun c9 => ?_)
 ·
  refine W.sr<|zF X X<|Y<|zw<|zd<|zb zfk ?_
  refine ⟨h3, _, rfl, st6.done, ?_⟩
  refine zx ?_
  (simp [zfd]; intros; omega)
 refine zy<|O<|zj<|W.sr<|zq X X<|Y<|zG ?_
 refine zax ([2, 3] ++ t_rg 16 25) (G := Nat × Heap) (fun ⟨i, h10⟩ => [(3, .int .i64 (i : Int))]) (fun ⟨i, h10⟩ w' => Le h3 h10 ∧ St h w h10 w' [] ∧ (i ≤ x.rules.length) ∧ ((x.rules.take i).all smallR = true)) (fun ⟨i, h10⟩ => x.rules.length - i) ⟨0, h3⟩ ⟨rfl, trivial⟩ ⟨Le.refl _, st6, zaW, zaW⟩ ?_
 rintro ⟨i, h10⟩ _ w13 ⟨le11, st12, hi, hA⟩
 refine zj<|W.sr<|zh X X<|E X zag X zcq X X<|U (j := 0) st12.sub (hc5.up le11) X X X zcZ X<|have l14:=le4.trans le11;zaH (x_f0.up l14) X zbd X<|zaX X X X<|Y ?_
 refine zC rfl (fun c15 => ?_) (fun c15 => ?_)
 ·
  refine zy<|O<|zj<|zG<|W.sr<|E X zag X zcq X X<|U (j := 0) st12.sub (hc5.up le11) X X X zcZ X<|zh X X ?_
  obtain ⟨r, hr⟩ : ∃ y_, (x.rules)[i]? = some y_ := t_ge (by omega)
  obtain ⟨b16, o17, _, he19, hc18, hr_r⟩ := Sl.elem (x_f0.up l14) hr
  obtain ⟨rfl, ls20, ls21⟩ := hr_r
  simp only [big] at ls20
  simp only [big] at ls21
  refine zU he19 X X (hk := X) (hu := zbd) (hz := zcV) X<|E X zbG X zak X X<|U (j := 0) st12.sub hc18 X X X zaD X<|zcx X zaB X<|zdm X X X<|zS X X ?_
  refine zY (d := 31) rfl (fun g22 => ?_) (fun g22 => ?_)
  ·
   refine M X X X X X<|M X X X X X<|M X X X X X<|M X X X X X<|M X X X X X<|M X X X X X<|M X X X X X<|M X X X X X<|zT (v := (.bool _)) X X X<|Y ?_
   refine zae rfl (fun c23 => ?_) (fun c23 => ?_)
   ·
    refine W.sr<|zF X X<|Y<|zw<|zK<|zd<|zd<|zK<|zd<|zb zfk ?_
    refine ⟨h10, _, rfl, st12.done, ?_⟩
    refine zx ?_
    (simp [zfd, zcG (p := smallR) hr (by simp [smallR]; intros; omega)])
   cases c23
  refine Z X X X<|E X zag X zcq X X<|Z X X X<|U (j := 0) st12.sub (hc5.up le11) X X X zcZ X<|Z X X X<|zh X X<|Z X X X<|zU he19 X X (hk := X) (hu := zbd) (hz := zcV) X<|Z X X X<|E X zbG X zak X X<|Z X X X<|U (j := 1) st12.sub hc18 X X X zaD X<|Z X X X<|zcx X zaB X<|Z X X X<|zdm X X X<|zN (v := (.bool _)) X X X<|Y ?_
  refine zC rfl (fun c24 => ?_) (fun c24 => ?_)
  ·
   refine W.sr<|zF X X<|Y<|zw<|zK<|zd<|zd<|zK<|zd<|zb zfk ?_
   refine ⟨h10, _, rfl, st12.done, ?_⟩
   refine zx ?_
   (simp [zfd, zcG (p := smallR) hr (by simp [smallR]; intros; omega)])
  refine zy<|zO<|O<|zn<|zh X X<|zaM X X t_om X<|zq X X<|Y ?_
  refine ⟨⟨i + 1, h10⟩, ⟨rfl, trivial⟩, ?_, ⟨le11, st12, ?_, ?_⟩, ?_⟩
  ·exact zau
  ·first | omega | (simp; omega)
  ·exact zct hA hr (by have q := g22; have q2 := c24; simp [smallR]; omega)
  show x.rules.length - ((i + 1)) < x.rules.length - i
  omega
 refine zaI<|zm<|zm<|zam<|O<|zj<|W.sr<|zq X X<|Y<|zG ?_
 refine zax ([2, 4, 5] ++ t_rg 41 23) (G := Nat × Heap) (fun ⟨k, h25⟩ => [(4, .int .i64 (k : Int))]) (fun ⟨k, h25⟩ w' => Le h10 h25 ∧ St h w h25 w' [] ∧ (k ≤ x.decisions.length) ∧ ((x.decisions.take k).all smallD = true)) (fun ⟨k, h25⟩ => x.decisions.length - k) ⟨0, h10⟩ ⟨rfl, trivial⟩ ⟨Le.refl _, st12, zaW, zaW⟩ ?_
 rintro ⟨k, h25⟩ _ w28 ⟨le26, st27, hk, hB⟩
 refine zj<|W.sr<|zh X X<|E X zag X zbN X X<|U (j := 1) st27.sub (hc5.up (le11.trans le26)) X X X zcr X<|have l29:=l14.trans le26;zaH (x_f1.up l29) X zaG X<|zaX X X X<|Y ?_
 refine zC rfl (fun c30 => ?_) (fun c30 => ?_)
 ·
  refine zy<|O<|zj<|zG<|W.sr<|E X zag X zbN X X<|U (j := 1) st27.sub (hc5.up (le11.trans le26)) X X X zcr X<|zh X X ?_
  obtain ⟨d, hd⟩ : ∃ y_, (x.decisions)[k]? = some y_ := t_ge (by omega)
  obtain ⟨b31, o32, _, he34, hc33, hr_d⟩ := Sl.elem (x_f1.up l29) hd
  obtain ⟨rfl, lu35, ls36, ls37, lu38⟩ := hr_d
  simp only [big] at ls36
  simp only [big] at ls37
  refine zU he34 X X (hk := X) (hu := zaG) (hz := zX) X<|zr st27.sub hc33 X zaY zX X X<|zQ st27 zbT X X<|fun b39 w40 st41=>zI st41 (k := 0) X X X (za X (za X (za X (za X (za X (za X (za X (za X (za X zan))))))))) zX X X X<|fun w42 st43=> ?_
  obtain ⟨h44, le45, hb46, st48⟩ := st43.freeze (k := 0) rfl
  have hc47 := Cells.of hb46
  refine Y<|W.sr<|E X zo X zak X X<|U (j := 2) st48.sub hc47 X X X zaD X<|zcx X zaB X<|zdm X X X<|zS X X ?_
  refine zY (d := 57) rfl (fun g49 => ?_) (fun g49 => ?_)
  ·
   refine M X X X X X<|M X X X X X<|M X X X X X<|M X X X X X<|M X X X X X<|zT (v := (.bool _)) X X X<|Y ?_
   refine zae rfl (fun c50 => ?_) (fun c50 => ?_)
   ·
    refine W.sr<|zF X X<|Y<|zw<|zK<|zd<|zd<|zK<|zd<|zb zfk ?_
    refine ⟨h44, _, rfl, st48.done, ?_⟩
    refine zx ?_
    (simp [zfd, zcG (p := smallD) hd (by simp [smallD]; intros; omega)])
   cases c50
  refine Z X X X<|E X zo X zai X X<|Z X X X<|E X zbn X zak X X<|Z X X X<|U (j := 6) st48.sub hc47 X X X zaD X<|Z X X X<|zcx X zaB X<|Z X X X<|zdm X X X<|zN (v := (.bool _)) X X X<|Y ?_
  refine zC rfl (fun c51 => ?_) (fun c51 => ?_)
  ·
   refine W.sr<|zF X X<|Y<|zw<|zK<|zd<|zd<|zK<|zd<|zb zfk ?_
   refine ⟨h44, _, rfl, st48.done, ?_⟩
   refine zx ?_
   (simp [zfd, zcG (p := smallD) hd (by simp [smallD]; intros; omega)])
  refine zy<|zO<|O<|zn<|zh X X<|zaM X X t_om X<|zq X X<|Y ?_
  refine ⟨⟨k + 1, h44⟩, ⟨rfl, trivial⟩, ?_, ⟨(le26.trans le45), st48.take 0, ?_, ?_⟩, ?_⟩
  ·exact zau
  ·first | omega | (simp; omega)
  ·exact zct hB hd (by have q := g49; have q2 := c51; simp [smallD]; omega)
  show x.decisions.length - ((k + 1)) < x.decisions.length - k
  omega
 refine zaI<|zm<|zm<|zam<|O<|W.sr<|zF X X<|Y<|zw<|zb zfk ?_
 refine ⟨h25, _, rfl, st27.done, ?_⟩
 refine zx ?_
 (simp [zfd, zcX hA (by omega), zcX hB (by omega)]; omega)
end Go.Pk

namespace Go.Pk
open Go Go.RowKit Go.Proofs
theorem c_postilref01_Twin {h : Heap} {w : World} (hs : Sub h w) {t : Text} {t_v0 : Value} (t_f0 : Sl LChapter h t_v0 t.chapters) (hsm : zfe t = true) : Calls Tryz.prog 52 #[.agg #[t_v0]] w (Rets h w (fun h' _ res_ => ∃ u0, res_ = .agg #[u0] ∧ Sl LChapter h' u0 (t).chapters)) := by
 refine zP (n := 55) Tryz.func52 X X X<|have st0:=t_s0 hs;have t_f0_b:=t_f0.le;W.sr<|zJ st0 (cs := [t_v0]) X X X<|fun b1 w2 h3 le4 hc5 st6=>zQ st6 Tryz.zeroValue24 X X<|fun b7 w8 st9=>Y<|W.sr<|zQ st9 Tryz.zeroValue24 X X<|fun b10 w11 st12=>Y<|zj<|W.sr<|zq X X<|Y<|zG ?_
 have st16 := st12.snoc
 have f17 := OSl.nil LChapter 152 h3
 refine zax (t_rg 4 50) (G := Nat × Value × List (Nat × Obj) × Heap) (fun ⟨i, v_c1_0, o_c1_0, h13⟩ => [(4, .int .i64 (i : Int))]) (fun ⟨i, v_c1_0, o_c1_0, h13⟩ w' => Le h3 h13 ∧ St h w h13 w' [[(b7, .cells (List.toArray [(.slice none 0 0)]) 24)], [(b10, .cells (List.toArray [v_c1_0]) 24)], o_c1_0] ∧ (OSl LChapter 152 h13 v_c1_0 (t.chapters.take i) o_c1_0) ∧ (i ≤ t.chapters.length)) (fun ⟨i, v_c1_0, o_c1_0, h13⟩ => t.chapters.length - i) ⟨0, (.slice none 0 0), [], h3⟩ ⟨rfl, trivial⟩ ⟨Le.refl _, st16, (OSl.to f17 (by simp)), zaW⟩ ?_
 rintro ⟨i, v_c1_0, o_c1_0, h13⟩ _ w18 ⟨le14, st15, hO_c1_0, hi⟩
 refine zj<|W.sr<|zh X X<|E X zaP X zbx X X<|U (j := 0) st15.sub (hc5.up le14) X X X zbW X<|have l19:=le4.trans le14;zaH (t_f0.up l19) X zaK X<|zaX X X X<|Y ?_
 refine zC rfl (fun c20 => ?_) (fun c20 => ?_)
 ·
  refine zy<|O<|zj<|zG<|W.sr<|E X zaP X zbx X X<|U (j := 0) st15.sub (hc5.up le14) X X X zbW X<|zh X X ?_
  obtain ⟨c, hc⟩ : ∃ y_, (t.chapters)[i]? = some y_ := t_ge (by omega)
  obtain ⟨b21, o22, _, he24, hc23, hr_c⟩ := Sl.elem (t_f0.up l19) hc
  obtain ⟨v25, rfl, f26⟩ := hr_c
  have f26_b := f26.le
  refine zU he24 X X (hk := X) (hu := zaK) (hz := zbA) X<|have hcl:=smallT_c hsm hc;have htl:=smallT_len hsm;E X zaJ X zl X X<|U (j := 0) st15.sub hc23 X X X zz X<|zi X X (zbq (cs := [.int .i64 (c.id), (.slice none 0 0)]) t_kr)<|zQ st15 Tryz.zeroValue152 X X<|fun b27 w28 st29=>zI st29 (k := 3) X X X (za X (za X zan)) zbA X X X<|fun w30 st31=>Y<|zj<|W.sr<|zq X X<|Y<|zG ?_
  have st35 := st31.snoc
  have f36 := OSl.nil (LSl LStr) 60 h13
  refine zax ([6] ++ t_rg 21 27) (G := Nat × Value × List (Nat × Obj) × Heap) (fun ⟨n, v_c3_1, o_c3_1, h32⟩ => [(6, .int .i64 (n : Int))]) (fun ⟨n, v_c3_1, o_c3_1, h32⟩ w' => Le h13 h32 ∧ St h w h32 w' [[(b7, .cells (List.toArray [(.slice none 0 0)]) 24)], [(b10, .cells (List.toArray [v_c1_0]) 24)], o_c1_0, [(b27, .cells (List.toArray [.int .i64 (c.id), v_c3_1]) 152)], o_c3_1] ∧ (OSl (LSl LStr) 60 h32 v_c3_1 (c.lines.take n) o_c3_1) ∧ (n ≤ c.lines.length)) (fun ⟨n, v_c3_1, o_c3_1, h32⟩ => c.lines.length - n) ⟨0, (.slice none 0 0), [], h13⟩ ⟨rfl, trivial⟩ ⟨Le.refl _, st35, (OSl.to f36 (by simp)), zaW⟩ ?_
  rintro ⟨n, v_c3_1, o_c3_1, h32⟩ _ w37 ⟨le33, st34, hO_c3_1, hn⟩
  refine zj<|W.sr<|zh X X<|E X zaP X zbx X X<|U (j := 0) st34.sub (hc5.up (le14.trans le33)) X X X zbW X<|zh X X<|zU he24 X X (hk := X) (hu := zaK) (hz := zbA) X<|E X zaJ X zbH X X<|U (j := 1) st34.sub (hc23.up le33) X X X zcm X<|zaH (f26.up le33) X zaO X<|zaX X X X<|Y ?_
  refine zC rfl (fun c38 => ?_) (fun c38 => ?_)
  ·
   refine zy<|O<|zj<|zG ?_
   obtain ⟨ln, hln⟩ : ∃ y_, (c.lines)[n]? = some y_ := t_ge (by omega)
   obtain ⟨b39, o40, _, he42, hc41, hr_ln⟩ := Sl.elem (f26.up le33) hln
   obtain ⟨v43, rfl, f44⟩ := hr_ln
   have f44_b := f44.le
   have hll := smallT_l hsm hc hln
   refine zbg (er := ([1], [], [], [], 0)) (dsts := [32, 33, 34, 35, 36, 37, 38, 39, 40, 41, 42, 43, 44, 45, 46, 47]) st34 Tryz.mixed<|zc 0 [] X t_kr t_kr X X (fun hD wD τD hL hS hO  => (zB X zaJ X zbH X))<|zc 1 [0] X t_kr t_kr X X (fun hD wD τD hL hS hO _ _ => (ziG ((hO X).get (k := 3) X) X X zcm)) ?_
   refine zas 2 (.res (fun _ res_ => ∃ p, res_ = .slice p 0 0) (fun _ _ _ _ f => f)) [] rfl t_kr t_kr ?_ ?_
   ·
    intro hD wD τD hL hS hO 
    have st45 := St.start hS
    refine OpsL.sliceZ st45 X ⟨_, zak⟩ zV<|fun v46 w47 f48 st49=> ?_
    exact zp ⟨_, _, rfl, st49, _, rfl, f48⟩
   refine zc 3 [] X t_kr t_kr X X (fun hD wD τD hL hS hO  => (zB X zaP X zbx X))<|zc 4 [0] X t_kr t_kr X X (fun hD wD τD hL hS hO _ _ => (zf (j := 0) (hL.sub hS) (hc5.up (le14.trans le33)) X X X zbW))<|zc 5 [] X t_kr t_kr X X (fun hD wD τD hL hS hO  => (zel X))<|zc 6 [1, 0] X t_kr t_kr X X (fun hD wD τD hL hS hO _ _ _ _ => (zav he24 X X (hk := X) (hu := zaK) (hz := zbA)))<|zc 7 [0] X t_kr t_kr X X (fun hD wD τD hL hS hO _ _ => (zB X zaJ X zbH X))<|zc 8 [0] X t_kr t_kr X X (fun hD wD τD hL hS hO _ _ => (zf (j := 1) (hL.sub hS) (hc23.up le33) X X X zcm))<|zc 9 [] X t_kr t_kr X X (fun hD wD τD hL hS hO  => (zel X))<|zc 10 [1, 0] X t_kr t_kr X X (fun hD wD τD hL hS hO _ _ _ _ => (zav he42 X X (hk := X) (hu := zaO) (hz := zdK)))<|zc 11 [0] X t_kr t_kr X X (fun hD wD τD hL hS hO _ _ => (zf (j := 0) (hL.sub hS) hc41 X X X zee)) ?_
   refine zas 12 (.res (fun h' res_ => Sl LStr h' res_ ln) (fun _ _ _ hl f => f.up hl)) [9, 0] rfl t_kr t_kr ?_ ?_
   ·
    intro hD wD τD hL hS hO gv2_ gf2_ _ _
    have st50 := St.start hS
    have st51 := st50.snoc
    have f52 := OSl.nil LStr 9 hD
    have f53 := OSl.nil0 LStr 9 hD gf2_
    refine zbB (k := 0) (nb := 16) st51 f53 rfl (f44.up hL) rfl rfl rfl zV Tryz.info9 rfl rfl rfl (by decide) rfl (by simp only [List.length_take, List.length_append, List.length_cons, List.length_nil]; omega) (by simp only [List.length_take, List.length_append, List.length_cons, List.length_nil]; omega) ?_
    intro v54 o55 w56 _ e57 f58 st59
    subst e57
    obtain ⟨h60, le61, f62, st63⟩ := OSl.freeze (k := 0) st59 f58 rfl (by simp only [List.length_take, List.length_append, List.length_cons, List.length_nil]; omega)
    exact zp ⟨_, _, rfl, st63.done, _, rfl, f62⟩
   refine zas 13 (.res (fun h' res_ => Sl (LSl LStr) h' res_ ([ln])) (fun _ _ _ hl f => f.up hl)) [0] rfl t_kr t_kr ?_ ?_
   ·
    intro hD wD τD hL hS hO gv12_0 gf12_0
    have st64 := St.start hS
    refine zac (L := (LSl LStr)) (xs := [ln]) (cs := [gv12_0]) st64 (Enc.cons (L := (LSl LStr)) (vs := [gv12_0]) (x := ln) (h := hD) (⟨_, rfl, gf12_0⟩) Enc.nil) rfl rfl rfl zaO Tryz.info60 rfl rfl rfl (by obtain ⟨_, _, rfl⟩ := Sl.form gf12_0; kernel_rfl) ?_
    intro v65 w66 h69 le70 f67 st68
    exact zp ⟨_, _, rfl, st68, _, rfl, f67⟩
   refine zbO<|zc 15 [14, 13, 12, 11, 10, 9, 8, 7, 6, 5, 4, 3, 2, 1, 0] X t_kr t_kr X X (fun hD wD τD hL hS hO _ _ _ _ gv2_ gf2_ _ _ _ _ _ _ _ _ _ _ _ _ _ _ _ _ _ _ gv12_0 gf12_0 gv13_0 gf13_0 => (zB X zaJ X zbH X))<|zbO<|zbP X X X X X X ⟨t_kr, X, t_kr, X, t_kr, X, X, t_kr, (zbp X (zbp X zcu))⟩<|fun hE72 w73 _ le74 st75 _ _ gv13_0x71 gf13_0x71 gv12_0x71 gf12_0x71=> ?_
   refine zbB (k := 4) (nb := 24) st75 (hO_c3_1.up le74) rfl gf13_0x71 rfl rfl rfl zaO Tryz.info60 rfl rfl rfl (by decide) rfl (by simp only [List.length_take, List.length_append, List.length_cons, List.length_nil]; omega) (by simp only [List.length_take, List.length_append, List.length_cons, List.length_nil]; omega) ?_
   intro v76 o77 w78 _ e79 f80 st81
   subst e79
   refine zp ⟨_, rfl, _, _, Le.refl _, st81, ?_⟩
   intro hE83 w84 _ le85 st86 _ _ _ _ _ _ gv2_x82 gf2_x82 _ _ _ _ _ _ _ _ _ _ _ _ _ _ _ _ _ _ gv12_0x82 gf12_0x82 gv13_0x82 gf13_0x82
   refine zar st86 (k := 3) X X (v := v76) X f80.one zbH X X X<|fun w87 st88=> ?_
   refine zp ⟨undef, rfl, _, _, Le.refl _, st88, ?_⟩
   intro hE89 w90 _ le91 st92 _ _ _ _ gv2_x93 gf2_x93 _ _ _ _ _ _ _ _ _ _ _ _ _ _ _ _ _ _ gv12_0x93 gf12_0x93 gv13_0x93 gf13_0x93 _ _
   refine AllDeps.fin X<|zO<|O<|zn<|zh X X<|zaM X X t_om X<|zq X X<|Y ?_
   have l94 := ((le33.trans le74).trans le85).trans le91
   refine ⟨⟨n + 1, v76, o77, hE89⟩, ⟨rfl, trivial⟩, ?_, ⟨l94, st92, ?_, ?_⟩, ?_⟩
   ·exact zau
   ·refine OSl.to (f80.up (le85.trans le91)) ?_
    rw [zbf hln]
   ·first | omega | (simp; omega)
   show c.lines.length - ((n + 1)) < c.lines.length - n
   omega
  refine zaI<|zm<|zm<|zam<|O<|zn<|E X zaP X zbx X X<|zbi (st34.get (k := 1) X) X X zbW X<|zbc (st34.get (k := 3) X) X Tryz.isAgg152 zbA X X ?_
  obtain ⟨h95, le96, f97, st98⟩ := OSl.freeze (k := 4) st34 hO_c3_1 rfl (by simp only [List.length_take, List.length_append, List.length_cons, List.length_nil]; omega)
  refine zac (L := LChapter) (xs := [(Chapter.mk (c.id) (c.lines.take n))]) (cs := [.int .i64 (c.id), v_c3_1]) st98 (Enc.cons (L := LChapter) (vs := [.int .i64 (c.id), v_c3_1]) (x := (Chapter.mk (c.id) (c.lines.take n))) (h := h95) (⟨_, X, f97⟩) Enc.nil) X X X zaK Tryz.info152 X X X t_kr<|fun v99 w100 h103 le104 f101 st102=> ?_
  refine zbB (k := 2) (nb := 32) st102 (hO_c1_0.up ((le33.trans le96).trans le104)) rfl f101 rfl rfl rfl zaK Tryz.info152 rfl rfl rfl (by decide) rfl (by simp only [List.length_take, List.length_append, List.length_cons, List.length_nil]; omega) (by simp only [List.length_take, List.length_append, List.length_cons, List.length_nil]; omega) ?_
  intro v105 o106 w107 _ e108 f109 st110
  subst e108
  refine E X zaP X zbx X X<|zar st110 (k := 1) X X (v := v105) X f109.one zbx X X X<|fun w111 st112=>zp<|zO<|O<|zn<|zh X X<|zaM X X t_om X<|zq X X<|Y ?_
  have l113 := ((le14.trans le33).trans le96).trans le104
  refine ⟨⟨i + 1, v105, o106, h103⟩, ⟨rfl, trivial⟩, ?_, ⟨l113, st112.take 3, ?_, ?_⟩, ?_⟩
  ·exact zau
  ·refine OSl.to f109 ?_
   rw [zbf hc, List.take_of_length_le (show c.lines.length ≤ n by omega)]
  ·first | omega | (simp; omega)
  show t.chapters.length - ((i + 1)) < t.chapters.length - i
  omega
 refine zaI<|zm<|zm<|zam<|O<|W.sr<|zbc (st15.get (k := 1) X) X zbk zaA X X<|zI st15 (k := 0) X X X (za hO_c1_0.one zan) zaA X X X<|fun w114 st115=> ?_
 obtain ⟨h116, le117, hb118, st120⟩ := st115.freeze (k := 0) rfl
 have hc119 := Cells.of hb118
 refine Y<|zw<|zdv Tryz.results52 X zbk zaA X st120.sub hc119 ?_
 obtain ⟨h121, le122, f123, st124⟩ := OSl.freeze (k := 2) st120 (hO_c1_0.up le117) rfl (by simp only [List.length_take, List.length_append, List.length_cons, List.length_nil]; omega)
 refine ⟨h121, _, rfl, st124.done, ?_⟩
 refine ⟨_, ?_, Sl.to f123 ?_⟩
 ·rfl
 rw [List.take_of_length_le (by omega)]
theorem c_postilref04_Twin {h : Heap} {w : World} (hs : Sub h w) {x : Lexicon} {x_v0 : Value} (x_f0 : Sl LRule h x_v0 x.rules) {x_v1 : Value} (x_f1 : Sl LDecision h x_v1 x.decisions) (hsm : zfd x = true) : Calls Tryz.prog 53 #[.agg #[x_v0, x_v1]] w (Rets h w (fun h' _ res_ => ∃ u0 u1, res_ = .agg #[u0, u1] ∧ Sl LRule h' u0 (x).rules ∧ Sl LDecision h' u1 (x).decisions)) := by
 refine zP (n := 14) Tryz.func53 X X X<|have st0:=t_s0 hs;have x_f0_b:=x_f0.le;have x_f1_b:=x_f1.le;W.sr<|OpsL.boxO st0 (cs := [x_v0, x_v1]) X X X<|fun b1 w2 st3=>zQ st3 zdP X X<|fun b4 w5 st6=>Y<|W.sr<|zhm (L := LRule) st6 X ⟨_, zcV⟩ zbd<|fun v7 o8 w9 f10 st11=>E X zag X zcq X X<|zbi (st11.get (k := 0) X) X X zcZ X ?_
 have hln := smallX_len hsm
 refine zbB (k := 2) (nb := 40) st11 f10 rfl x_f0 rfl rfl rfl zbd Tryz.info68 rfl rfl rfl (by decide) rfl (by simp only [List.length_nil, List.nil_append]; omega) (by simp only [List.length_nil, List.nil_append]; omega) ?_
 intro v12 o13 w14 _ e15 f16 st17
 subst e15
 refine E X zag X zcq X X<|zar st17 (k := 0) X X (v := v12) X f16.one zcq X X X<|fun w18 st19=>Y<|W.sr<|zhm (L := LDecision) st19 X ⟨_, zX⟩ zaG<|fun v20 o21 w22 f23 st24=>E X zag X zbN X X<|zbi (st24.get (k := 0) X) X X zcr X ?_
 refine zbB (k := 3) (nb := 88) st24 f23 rfl x_f1 rfl rfl rfl zaG Tryz.info74 rfl rfl rfl (by decide) rfl (by simp only [List.length_nil, List.nil_append]; omega) (by simp only [List.length_nil, List.nil_append]; omega) ?_
 intro v25 o26 w27 _ e28 f29 st30
 subst e28
 refine E X zag X zbN X X<|zar st30 (k := 0) X X (v := v25) X f29.one zbN X X X<|fun w31 st32=>Y<|W.sr<|zbc (st32.get (k := 0) X) X zbL zaC X X<|zI st32 (k := 1) X X X (za f16.one (za f29.one zan)) zaC X X X<|fun w33 st34=> ?_
 obtain ⟨h35, le36, hb37, st39⟩ := st34.freeze (k := 1) rfl
 have hc38 := Cells.of hb37
 refine Y<|zw<|zdv Tryz.results53 X zbL zaC X st39.sub hc38 ?_
 obtain ⟨h40, le41, f42, st43⟩ := OSl.freeze (k := 2) st39 (f16.up le36) rfl (by simp only [List.nil_append]; omega)
 obtain ⟨h44, le45, f46, st47⟩ := OSl.freeze (k := 3) st43 (f29.up (le36.trans le41)) rfl (by simp only [List.nil_append]; omega)
 refine ⟨h44, _, rfl, st47.done, ?_⟩
 refine ⟨_, _, ?_, Sl.to (f42.up le45) ?_, Sl.to f46 ?_⟩
 ·rfl
 ·simp
 simp
end Go.Pk

namespace Go.Pk
open Go Go.RowKit Go.Proofs
theorem c_cmp_isNaN_int {h : Heap} {w : World} (hs : Sub h w) (x : Int) : Calls Tryz.prog 149 #[.int .i64 x] w (Rets h w (fun _ _ res_ => res_ = .bool (false))) := by
 refine zP (n := 6) Tryz.func149 X X X<|have st0:=t_s0 hs;W.sr<|zF X X<|Y<|W.sr<|zh X X<|zh X X<|zcf X X X<|zF X X<|Y<|zw<|zb Tryz.results149 ?_
 refine ⟨h, _, rfl, st0.done, ?_⟩
 refine zx ?_
 simp
theorem zeX {h : Heap} {w : World} (hs : Sub h w) (a : Int) (b : Int) : Calls Tryz.prog 106 #[.int .i64 a, .int .i64 b] w (Rets h w (fun _ _ res_ => res_ = .int .i64 (cmpI a b))) := by
 refine zP (n := 20) Tryz.func106 X X X<|have st0:=t_s0 hs;W.sr<|zq X X<|Y<|W.sr<|zh X X<|ze st0 X X X Tryz.call149 X (c_cmp_isNaN_int st0.sub _)<|fun r1 w2 h3 le4 st5 q6=> ?_
 obtain rfl := q6
 refine zF X X<|Y<|W.sr<|zh X X<|ze st5 X X X Tryz.call149 X (c_cmp_isNaN_int st5.sub _)<|fun r7 w8 h9 le10 st11 q12=> ?_
 obtain rfl := q12
 refine zF X X<|Y<|zj<|W.sr<|zS X X<|Y ?_
 refine zae rfl (fun c13 => ?_) (fun c13 => ?_)
 ·
  refine zj<|W.sr<|zS X X<|Y ?_
  refine zae rfl (fun c14 => ?_) (fun c14 => ?_)
  ·
   refine W.sr<|zq X X<|Y<|zw<|zd<|zd<|zb zfA ?_
   refine ⟨h9, _, rfl, st11.done, ?_⟩
   refine zah ?_
   all_goals (unfold cmpI; repeat' split)
   all_goals (first | omega | simp_all | rfl)
  refine zy<|O<|W.sr<|zq X X<|Y<|zw<|zd<|zb zfA ?_
  refine ⟨h9, _, rfl, st11.done, ?_⟩
  refine zah ?_
  all_goals (unfold cmpI; repeat' split)
  all_goals (first | omega | simp_all | rfl)
 refine zy<|O<|zj<|W.sr<|zS X X<|Y ?_
 refine zae rfl (fun c15 => ?_) (fun c15 => ?_)
 ·
  refine W.sr<|zq X X<|Y<|zw<|zd<|zb zfA ?_
  refine ⟨h9, _, rfl, st11.done, ?_⟩
  refine zah ?_
  all_goals (unfold cmpI; repeat' split)
  all_goals (first | omega | simp_all | rfl)
 refine zy<|O<|zj<|W.sr<|zh X X<|zh X X<|zaX X X X<|Y ?_
 refine zC rfl (fun c16 => ?_) (fun c16 => ?_)
 ·
  refine W.sr<|zq X X<|Y<|zw<|zd<|zb zfA ?_
  refine ⟨h9, _, rfl, st11.done, ?_⟩
  refine zah ?_
  all_goals (unfold cmpI; repeat' split)
  all_goals (first | omega | simp_all | rfl)
 refine zy<|O<|zj<|W.sr<|zh X X<|zh X X<|zdm X X X<|Y ?_
 refine zC rfl (fun c17 => ?_) (fun c17 => ?_)
 ·
  refine W.sr<|zq X X<|Y<|zw<|zd<|zb zfA ?_
  refine ⟨h9, _, rfl, st11.done, ?_⟩
  refine zah ?_
  all_goals (unfold cmpI; repeat' split)
  all_goals (first | omega | simp_all | rfl)
 refine zy<|O<|W.sr<|zq X X<|Y<|zw<|zb zfA ?_
 refine ⟨h9, _, rfl, st11.done, ?_⟩
 refine zah ?_
 all_goals (unfold cmpI; repeat' split)
 all_goals (first | omega | simp_all | rfl)
theorem zfF {h : Heap} {w : World} (hs : Sub h w) {a_v : Value} {a : (List Int)} (a_f : Sl LInt h a_v a) {b_v : Value} {b : (List Int)} (b_f : Sl LInt h b_v b) : Calls Tryz.prog 66 #[a_v, b_v] w (Rets h w (fun _ _ res_ => res_ = .int .i64 (cmpL a b))) := by
 refine zP (n := 36) Tryz.func66 X X X<|have st0:=t_s0 hs;have a_f_b:=a_f.le;have b_f_b:=b_f.le;W.sr<|zq X X<|Y<|zj<|W.sr<|zR (v := a_v) X X<|zaH a_f X zg X<|zh X X<|Y<|zG ?_
 refine zax ([4, 5, 6, 7, 8] ++ t_rg 11 20) (G := Nat × Heap) (fun ⟨k, h1⟩ => [(11, .int .i64 (k : Int))]) (fun ⟨k, h1⟩ w' => Le h h1 ∧ St h w h1 w' [] ∧ (k ≤ a.length) ∧ (k ≤ b.length) ∧ (cmpL a b = cmpL (a.drop k) (b.drop k))) (fun ⟨k, h1⟩ => a.length - k) ⟨0, h⟩ ⟨rfl, trivial⟩ ⟨Le.refl _, st0, zaW, zaW, (by rfl)⟩ ?_
 rintro ⟨k, h1⟩ _ w4 ⟨le2, st3, hk, hkb, he⟩
 refine W.sr<|zaX X X X<|Y<|zj ?_
 refine zC rfl (fun c5 => ?_) (fun c5 => ?_)
 ·
  refine zy<|O<|zj<|zG<|W.sr<|zh X X ?_
  obtain ⟨x, hx⟩ : ∃ y_, (a)[k]? = some y_ := t_ge (by omega)
  obtain ⟨b6, o7, _, he9, hc8, hr_x⟩ := Sl.elem (a_f.up le2) hx
  obtain rfl := hr_x
  refine zU he9 X X (hk := X) (hu := zg) (hz := zl) X<|U (j := 0) st3.sub hc8 X X X zz X<|zq X X<|zq X X<|Y<|zj<|W.sr<|zh X X<|zR (v := b_v) X X<|zaH (b_f.up le2) X zg X<|zhq X X X<|Y ?_
  refine zC rfl (fun c10 => ?_) (fun c10 => ?_)
  ·
   refine W.sr<|zq X X<|Y<|zw<|zd<|zK<|zd<|zd<|zK<|zd<|zb Tryz.results66 ?_
   refine ⟨h1, _, rfl, st3.done, ?_⟩
   refine zah ?_
   rw [he, cmpL_cons_nil (List.drop_eq_nil_of_le (by omega)) (by intro q; have := List.drop_eq_nil_iff.1 q; omega)]
  refine zy<|O<|W.sr<|zR (v := b_v) X X<|zh X X ?_
  obtain ⟨y, hy⟩ : ∃ y_, (b)[k]? = some y_ := t_ge (by omega)
  obtain ⟨b11, o12, _, he14, hc13, hr_y⟩ := Sl.elem (b_f.up le2) hy
  obtain rfl := hr_y
  refine zU he14 X X (hk := X) (hu := zg) (hz := zl) X<|U (j := 0) st3.sub hc13 X X X zz X<|zq X X<|Y<|W.sr<|zh X X<|zh X X<|ze st3 X X X Tryz.call106 X (zeX st3.sub _ _)<|fun r15 w16 h17 le18 st19 q20=> ?_
  obtain rfl := q20
  refine zq X X<|Y<|W.sr<|zh X X<|zcf X X X<|Y ?_
  refine zC rfl (fun c21 => ?_) (fun c21 => ?_)
  ·
   refine W.sr<|zh X X<|zq X X<|Y<|zw<|zK<|zd<|zd<|zK<|zd<|zb Tryz.results66 ?_
   refine ⟨h17, _, rfl, st19.done, ?_⟩
   refine zah ?_
   rw [he, cmpL_step hx hy, if_pos (by simpa using c21)]
  refine zy<|zO<|O<|zn<|zaM X X t_om X<|zh X X<|Y ?_
  have l22 := le2.trans le18
  refine ⟨⟨k + 1, h17⟩, ⟨rfl, trivial⟩, ?_, ⟨l22, st19, ?_, ?_, ?_⟩, ?_⟩
  ·exact zau
  ·first | omega | (simp; omega)
  ·have := (List.getElem?_eq_some_iff.1 hy).1; omega
  ·rw [he, cmpL_step hx hy, if_neg (by simpa using c21)]
  show a.length - ((k + 1)) < a.length - k
  omega
 refine zaI<|zm<|zm<|zam<|O<|zj<|W.sr<|zR (v := a_v) X X<|zaH (a_f.up le2) X zg X<|zR (v := b_v) X X<|zaH (b_f.up le2) X zg X<|zaX X X X<|Y ?_
 refine zC rfl (fun c23 => ?_) (fun c23 => ?_)
 ·
  refine W.sr<|zq X X<|Y<|zw<|zd<|zb Tryz.results66 ?_
  refine ⟨h1, _, rfl, st3.done, ?_⟩
  refine zah ?_
  rw [he, cmpL_nil_cons (List.drop_eq_nil_of_le (by omega)) (by intro q; have := List.drop_eq_nil_iff.1 q; omega)]
 refine zy<|O<|W.sr<|zq X X<|Y<|zw<|zb Tryz.results66 ?_
 refine ⟨h1, _, rfl, st3.done, ?_⟩
 refine zah ?_
 rw [he, List.drop_eq_nil_of_le (by omega), List.drop_eq_nil_of_le (by omega)]; rfl
theorem c_stem_order {h : Heap} {w : World} (hs : Sub h w) {a : Place} {b : Place} : Calls Tryz.prog 227 #[.agg #[.int .i64 a.chapter, .int .i64 a.line, .int .i64 a.word], .agg #[.int .i64 b.chapter, .int .i64 b.line, .int .i64 b.word]] w (Rets h w (fun _ _ res_ => res_ = .int .i64 (ordI a b))) := by
 refine zP (n := 24) Tryz.func227 X X X<|have st0:=t_s0 hs;W.sr<|zJ st0 (cs := [.int .i64 (a.chapter), .int .i64 (a.line), .int .i64 (a.word)]) X X X<|fun b1 w2 h3 le4 hc5 st6=>zJ st6 (cs := [.int .i64 (b.chapter), .int .i64 (b.line), .int .i64 (b.word)]) X X X<|fun b7 w8 h9 le10 hc11 st12=>zq X X<|Y<|zj<|zbg (er := ([], [], [], [], 0)) (dsts := [7, 8, 9, 10, 11, 12, 13, 14, 15, 16, 17, 18, 19, 20, 5, 6]) st12 Tryz.mixed<|zc 0 [] X t_kr t_kr X X (fun hD wD τD hL hS hO  => (zB X zao X zl X))<|zc 1 [0] X t_kr t_kr X X (fun hD wD τD hL hS hO _ _ => (zf (j := 0) (hL.sub hS) (hc5.up le10) X X X zz))<|zc 2 [] X t_kr t_kr X X (fun hD wD τD hL hS hO  => (zB X zao X zl X))<|zc 3 [0] X t_kr t_kr X X (fun hD wD τD hL hS hO _ _ => (zf (j := 1) (hL.sub hS) (hc5.up le10) X X X zz))<|zc 4 [] X t_kr t_kr X X (fun hD wD τD hL hS hO  => (zB X zao X zl X))<|zc 5 [0] X t_kr t_kr X X (fun hD wD τD hL hS hO _ _ => (zf (j := 2) (hL.sub hS) (hc5.up le10) X X X zz))<|zc 6 [4, 2, 0] X t_kr t_kr X X (fun hD wD τD hL hS hO _ _ _ _ _ _ => (zbq (cs := [.int .i64 (a.chapter), .int .i64 (a.line), .int .i64 (a.word)]) t_kr))<|zc 7 [] X t_kr t_kr X X (fun hD wD τD hL hS hO  => (zB X zao X zl X))<|zc 8 [0] X t_kr t_kr X X (fun hD wD τD hL hS hO _ _ => (zf (j := 0) (hL.sub hS) hc11 X X X zz))<|zc 9 [] X t_kr t_kr X X (fun hD wD τD hL hS hO  => (zB X zao X zl X))<|zc 10 [0] X t_kr t_kr X X (fun hD wD τD hL hS hO _ _ => (zf (j := 1) (hL.sub hS) hc11 X X X zz))<|zc 11 [] X t_kr t_kr X X (fun hD wD τD hL hS hO  => (zB X zao X zl X))<|zc 12 [0] X t_kr t_kr X X (fun hD wD τD hL hS hO _ _ => (zf (j := 2) (hL.sub hS) hc11 X X X zz))<|zc 13 [4, 2, 0] X t_kr t_kr X X (fun hD wD τD hL hS hO _ _ _ _ _ _ => (zbq (cs := [.int .i64 (b.chapter), .int .i64 (b.line), .int .i64 (b.word)]) t_kr))<|ziB Tryz.zeroValue172 X<|ziB Tryz.zeroValue172 X<|zbO ?_
 refine zbO<|zbP X X X X X X ⟨t_kr, X, t_kr, X, t_kr, X, X, t_kr, (zbp X (zbp X zcu))⟩<|fun b13=>fun b14=>fun hE16 w17 _ le18 st19 _ _ _ _ _ _ _ _ _ _ _ _ _ _=>zI st19 (k := 0) X X X (za X (za X (za X zan))) Tryz.sizeOf172 X X X<|fun w20 st21=> ?_
 obtain ⟨h22, le23, hb24, st26⟩ := st21.freeze (k := 0) rfl
 have hc25 := Cells.of hb24
 refine zp ⟨undef, rfl, _, _, le23, st26, ?_⟩
 intro hE28 w29 _ le30 st31 _ _ _ _ _ _ _ _ _ _ _ _ _ _ _ _ _ _ _ _ _ _ _ _ _ _ _ _
 refine zI st31 (k := 1) X X X (za X (za X (za X zan))) Tryz.sizeOf172 X X X<|fun w32 st33=> ?_
 obtain ⟨h34, le35, hb36, st38⟩ := st33.freeze (k := 1) rfl
 have hc37 := Cells.of hb36
 refine zp ⟨undef, rfl, _, _, le35, st38, ?_⟩
 intro hE39 w40 _ le41 st42 _ _ _ _ _ _ _ _ _ _ _ _ _ _ _ _ _ _ _ _ _ _ _ _ _ _ _ _
 refine AllDeps.fin X<|O<|zj<|zbX Tryz.mixed t_kr (Cls hE39 _) (Cls.drew st42) ?_
 have fa45 := Sl.ofCells (L := LInt) (xs := [(a.chapter), (a.line), (a.word)]) hc25 (Enc.cons (L := LInt) (vs := [.int .i64 (a.chapter)]) (x := (a.chapter)) (h := h22) (rfl) (Enc.cons (L := LInt) (vs := [.int .i64 (a.line)]) (x := (a.line)) (h := h22) (rfl) (Enc.cons (L := LInt) (vs := [.int .i64 (a.word)]) (x := (a.word)) (h := h22) (rfl) Enc.nil))) (by simp [big])
 refine zH X X (fun _ _ => (r_slice_arr X zdc zl)) ?_
 have fa47 := Sl.ofCells (L := LInt) (xs := [(b.chapter), (b.line), (b.word)]) hc37 (Enc.cons (L := LInt) (vs := [.int .i64 (b.chapter)]) (x := (b.chapter)) (h := h34) (rfl) (Enc.cons (L := LInt) (vs := [.int .i64 (b.line)]) (x := (b.line)) (h := h34) (rfl) (Enc.cons (L := LInt) (vs := [.int .i64 (b.word)]) (x := (b.word)) (h := h34) (rfl) Enc.nil))) (by simp [big])
 refine zH X X (fun _ _ => (r_slice_arr X zdc zl))<|zcW X X (fun _ => zaV X Tryz.call66 X) (fun _ hC => Rets.quiet hC (zfF hC.sub (fa45.up ((le30.trans le35).trans le41)) (fa47.up le41)))<|u_asI X X<|zbC ?_
 rintro w48 ⟨h49, s50⟩
 have st51 := st42.call0 s50
 refine O<|zw<|zb Tryz.results227 ?_
 refine ⟨h49, _, rfl, st51.done, ?_⟩
 refine zah ?_
 rfl
theorem c_stem_first {h : Heap} {w : World} (hs : Sub h w) {a : Decision} (a_l2 : 0 ≤ a.kind ∧ a.kind ≤ 255) (a_l3 : a.form.length ≤ 281474976710656) (a_l7 : a.to.stem.length ≤ 281474976710656) (a_l8 : 0 ≤ a.to.mark ∧ a.to.mark ≤ 255) {b : Decision} (b_l2 : 0 ≤ b.kind ∧ b.kind ≤ 255) (b_l3 : b.form.length ≤ 281474976710656) (b_l7 : b.to.stem.length ≤ 281474976710656) (b_l8 : 0 ≤ b.to.mark ∧ b.to.mark ≤ 255) (ha : 0 ≤ a.number ∧ a.number ≤ 999) (hb : 0 ≤ b.number ∧ b.number ≤ 999) : Calls Tryz.prog 194 #[.agg #[.int .i64 a.number, .int .u8 a.kind, strV a.form, .int .i64 a.at_.chapter, .int .i64 a.at_.line, .int .i64 a.at_.word, strV a.to.stem, .int .u8 a.to.mark, .int .i64 a.of_], .agg #[.int .i64 b.number, .int .u8 b.kind, strV b.form, .int .i64 b.at_.chapter, .int .i64 b.at_.line, .int .i64 b.at_.word, strV b.to.stem, .int .u8 b.to.mark, .int .i64 b.of_]] w (Rets h w (fun _ _ res_ => res_ = .int .i64 (firstI a b))) := by
 refine zP (n := 39) Tryz.func194 X X X<|have st0:=t_s0 hs;W.sr<|zJ st0 (cs := [.int .i64 (a.number), .int .u8 (a.kind), strV (a.form), .int .i64 (a.at_.chapter), .int .i64 (a.at_.line), .int .i64 (a.at_.word), strV (a.to.stem), .int .u8 (a.to.mark), .int .i64 (a.of_)]) X X X<|fun b1 w2 h3 le4 hc5 st6=>zJ st6 (cs := [.int .i64 (b.number), .int .u8 (b.kind), strV (b.form), .int .i64 (b.at_.chapter), .int .i64 (b.at_.line), .int .i64 (b.at_.word), strV (b.to.stem), .int .u8 (b.to.mark), .int .i64 (b.of_)]) X X X<|fun b7 w8 h9 le10 hc11 st12=>zq X X<|Y<|zj<|zG<|W.sr<|E X zo X zbu X X<|U (j := 1) st12.sub (hc5.up le10) X X X zbV X<|E X zo X zbu X X<|U (j := 1) st12.sub hc11 X X X zbV X<|zcf X X X<|zF X X<|Y ?_
 refine zC rfl (fun c13 => ?_) (fun c13 => ?_)
 ·
  refine W.sr<|E X zo X zbu X X<|U (j := 1) st12.sub (hc5.up le10) X X X zbV X ?_
  refine zi rfl rfl (zfW rfl rfl zbU (IntWalk.i64_in _ (by omega))) ?_
  refine E X zo X zbu X X<|U (j := 1) st12.sub hc11 X X X zbV X ?_
  refine zi rfl rfl (zfW rfl rfl zbU (IntWalk.i64_in _ (by omega))) ?_
  refine ziC X X t_om X<|zq X X<|Y<|zw<|zK<|zd<|zb Tryz.results194 ?_
  refine ⟨h9, _, rfl, st12.done, ?_⟩
  refine zah ?_
  simp_all [firstI]
 refine W.sr<|E X zo X zbu X X<|U (j := 1) st12.sub (hc5.up le10) X X X zbV X<|zdd X X X<|zS X X ?_
 refine zY (d := 22) rfl (fun g14 => ?_) (fun g14 => ?_)
 ·
  refine Z X X X<|E X zo X zW X X<|Z X X X<|zal (j := 3) st12.sub (hc5.up le10) (us := [.int .i64 (a.at_.chapter), .int .i64 (a.at_.line), .int .i64 (a.at_.word)]) X X zaQ zW X X X<|Z X X X<|E X zo X zW X X<|Z X X X<|zal (j := 3) st12.sub hc11 (us := [.int .i64 (b.at_.chapter), .int .i64 (b.at_.line), .int .i64 (b.at_.word)]) X X zaQ zW X X X<|Z X X X<|zi X X (r_stneq X X Tryz.eqGuardType70 (Tryz.eq_Place a.at_ b.at_))<|zT (v := (.bool _)) X X X<|zF X X<|Y ?_
  refine zC rfl (fun c15 => ?_) (fun c15 => ?_)
  ·
   refine W.sr<|E X zo X zW X X<|zal (j := 3) st12.sub (hc5.up le10) (us := [.int .i64 (a.at_.chapter), .int .i64 (a.at_.line), .int .i64 (a.at_.word)]) X X zaQ zW X X X<|E X zo X zW X X<|zal (j := 3) st12.sub hc11 (us := [.int .i64 (b.at_.chapter), .int .i64 (b.at_.line), .int .i64 (b.at_.word)]) X X zaQ zW X X X<|ze st12 X X X Tryz.call227 X (c_stem_order st12.sub (a := a.at_) (b := b.at_))<|fun r16 w17 h18 le19 st20 q21=> ?_
   obtain rfl := q21
   refine zq X X<|Y<|zw<|zK<|zd<|zb Tryz.results194 ?_
   refine ⟨h18, _, rfl, st20.done, ?_⟩
   refine zah ?_
   simp_all [firstI]
  refine zy<|zO<|O<|W.sr<|E X zo X zl X X<|U (j := 0) st12.sub (hc5.up le10) X X X zz X<|E X zo X zl X X<|U (j := 0) st12.sub hc11 X X X zz X<|ziC X X t_om X<|zq X X<|Y<|zw<|zb Tryz.results194 ?_
  refine ⟨h9, _, rfl, st12.done, ?_⟩
  refine zah ?_
  simp_all [firstI]
 refine M X X X X X<|M X X X X X<|M X X X X X<|M X X X X X<|M X X X X X<|zN (v := (.bool _)) X X X<|zF X X<|Y ?_
 refine zae rfl (fun c22 => ?_) (fun c22 => ?_)
 ·
  cases c22
 refine zy<|zO<|O<|W.sr<|E X zo X zl X X<|U (j := 0) st12.sub (hc5.up le10) X X X zz X<|E X zo X zl X X<|U (j := 0) st12.sub hc11 X X X zz X<|ziC X X t_om X<|zq X X<|Y<|zw<|zb Tryz.results194 ?_
 refine ⟨h9, _, rfl, st12.done, ?_⟩
 refine zah ?_
 simp_all [firstI]
theorem c_stem_kinds_1 {h : Heap} {w : World} (hs : Sub h w) {d : Decision} (d_l2 : 0 ≤ d.kind ∧ d.kind ≤ 255) (d_l3 : d.form.length ≤ 281474976710656) (d_l7 : d.to.stem.length ≤ 281474976710656) (d_l8 : 0 ≤ d.to.mark ∧ d.to.mark ≤ 255) {p : Place} (wd : Str) (wd_le : wd.length ≤ 281474976710656) : Calls Tryz.prog 269 #[.agg #[.int .i64 d.number, .int .u8 d.kind, strV d.form, .int .i64 d.at_.chapter, .int .i64 d.at_.line, .int .i64 d.at_.word, strV d.to.stem, .int .u8 d.to.mark, .int .i64 d.of_], .agg #[.int .i64 p.chapter, .int .i64 p.line, .int .i64 p.word], strV wd] w (Rets h w (fun _ _ res_ => res_ = .bool (decide (d.form = wd)))) := by
 refine zP (n := 11) Tryz.func269 X X X<|have st0:=t_s0 hs;W.sr<|zJ st0 (cs := [.int .i64 (d.number), .int .u8 (d.kind), strV (d.form), .int .i64 (d.at_.chapter), .int .i64 (d.at_.line), .int .i64 (d.at_.word), strV (d.to.stem), .int .u8 (d.to.mark), .int .i64 (d.of_)]) X X X<|fun b1 w2 h3 le4 hc5 st6=>zJ st6 (cs := [.int .i64 (p.chapter), .int .i64 (p.line), .int .i64 (p.word)]) X X X<|fun b7 w8 h9 le10 hc11 st12=>zF X X<|Y<|W.sr<|E X zo X zak X X<|U (j := 2) st12.sub (hc5.up le10) X X X zaD X<|zcn X X<|v_seql X X X<|zF X X<|Y<|zw<|zb Tryz.results269 ?_
 refine ⟨h9, _, rfl, st12.done, ?_⟩
 refine zx ?_
 rfl
theorem c_stem_kinds_2 {h : Heap} {w : World} (hs : Sub h w) {d : Decision} (d_l2 : 0 ≤ d.kind ∧ d.kind ≤ 255) (d_l3 : d.form.length ≤ 281474976710656) (d_l7 : d.to.stem.length ≤ 281474976710656) (d_l8 : 0 ≤ d.to.mark ∧ d.to.mark ≤ 255) {p : Place} (wd : Str) (wd_le : wd.length ≤ 281474976710656) : Calls Tryz.prog 270 #[.agg #[.int .i64 d.number, .int .u8 d.kind, strV d.form, .int .i64 d.at_.chapter, .int .i64 d.at_.line, .int .i64 d.at_.word, strV d.to.stem, .int .u8 d.to.mark, .int .i64 d.of_], .agg #[.int .i64 p.chapter, .int .i64 p.line, .int .i64 p.word], strV wd] w (Rets h w (fun _ _ res_ => res_ = .bool ((decide (d.form = wd) && decide (ordI d.at_ p ≤ 0))))) := by
 refine zP (n := 18) Tryz.func270 X X X<|have st0:=t_s0 hs;W.sr<|zJ st0 (cs := [.int .i64 (d.number), .int .u8 (d.kind), strV (d.form), .int .i64 (d.at_.chapter), .int .i64 (d.at_.line), .int .i64 (d.at_.word), strV (d.to.stem), .int .u8 (d.to.mark), .int .i64 (d.of_)]) X X X<|fun b1 w2 h3 le4 hc5 st6=>zJ st6 (cs := [.int .i64 (p.chapter), .int .i64 (p.line), .int .i64 (p.word)]) X X X<|fun b7 w8 h9 le10 hc11 st12=>zF X X<|Y<|W.sr<|E X zo X zak X X<|U (j := 2) st12.sub (hc5.up le10) X X X zaD X<|zcn X X<|v_seql X X X<|zS X X ?_
 refine zY (d := 11) rfl (fun g13 => ?_) (fun g13 => ?_)
 ·
  refine Z X X X<|E X zo X zW X X<|Z X X X<|zal (j := 3) st12.sub (hc5.up le10) (us := [.int .i64 (d.at_.chapter), .int .i64 (d.at_.line), .int .i64 (d.at_.word)]) X X zaQ zW X X X<|Z X X X<|zr st12.sub hc11 X zaQ zW X X<|Z X X X<|ze st12 X X X Tryz.call227 X (c_stem_order st12.sub (a := d.at_) (b := p))<|fun r14 w15 h16 le17 st18 q19=> ?_
  obtain rfl := q19
  refine Z X X X<|zi X X (r_leq X X)<|zT (v := (.bool _)) X X X<|zF X X<|Y<|zw<|zb Tryz.results270 ?_
  refine ⟨h16, _, rfl, st18.done, ?_⟩
  refine zx ?_
  simp_all
 refine M X X X X X<|M X X X X X<|M X X X X X<|M X X X X X<|M X X X X X<|zN (v := (.bool _)) X X X<|zF X X<|Y<|zw<|zb Tryz.results270 ?_
 refine ⟨h9, _, rfl, st12.done, ?_⟩
 refine zx ?_
 simp_all
theorem c_stem_kinds_3 {h : Heap} {w : World} (hs : Sub h w) {d : Decision} (d_l2 : 0 ≤ d.kind ∧ d.kind ≤ 255) (d_l3 : d.form.length ≤ 281474976710656) (d_l7 : d.to.stem.length ≤ 281474976710656) (d_l8 : 0 ≤ d.to.mark ∧ d.to.mark ≤ 255) {p : Place} (wd : Str) (wd_le : wd.length ≤ 281474976710656) : Calls Tryz.prog 271 #[.agg #[.int .i64 d.number, .int .u8 d.kind, strV d.form, .int .i64 d.at_.chapter, .int .i64 d.at_.line, .int .i64 d.at_.word, strV d.to.stem, .int .u8 d.to.mark, .int .i64 d.of_], .agg #[.int .i64 p.chapter, .int .i64 p.line, .int .i64 p.word], strV wd] w (Rets h w (fun _ _ res_ => res_ = .bool (decide (d.at_ = p)))) := by
 refine zP (n := 11) Tryz.func271 X X X<|have st0:=t_s0 hs;W.sr<|zJ st0 (cs := [.int .i64 (d.number), .int .u8 (d.kind), strV (d.form), .int .i64 (d.at_.chapter), .int .i64 (d.at_.line), .int .i64 (d.at_.word), strV (d.to.stem), .int .u8 (d.to.mark), .int .i64 (d.of_)]) X X X<|fun b1 w2 h3 le4 hc5 st6=>zJ st6 (cs := [.int .i64 (p.chapter), .int .i64 (p.line), .int .i64 (p.word)]) X X X<|fun b7 w8 h9 le10 hc11 st12=>zF X X<|Y<|W.sr<|E X zo X zW X X<|zal (j := 3) st12.sub (hc5.up le10) (us := [.int .i64 (d.at_.chapter), .int .i64 (d.at_.line), .int .i64 (d.at_.word)]) X X zaQ zW X X X<|zr st12.sub hc11 X zaQ zW X X<|zi X X (zgU X X Tryz.eqGuardType70 (Tryz.eq_Place d.at_ p))<|zF X X<|Y<|zw<|zb Tryz.results271 ?_
 refine ⟨h9, _, rfl, st12.done, ?_⟩
 refine zx ?_
 rfl
theorem c_stem_kinds_4 {h : Heap} {w : World} (hs : Sub h w) {d : Decision} (d_l2 : 0 ≤ d.kind ∧ d.kind ≤ 255) (d_l3 : d.form.length ≤ 281474976710656) (d_l7 : d.to.stem.length ≤ 281474976710656) (d_l8 : 0 ≤ d.to.mark ∧ d.to.mark ≤ 255) {p : Place} (wd : Str) (wd_le : wd.length ≤ 281474976710656) : Calls Tryz.prog 272 #[.agg #[.int .i64 d.number, .int .u8 d.kind, strV d.form, .int .i64 d.at_.chapter, .int .i64 d.at_.line, .int .i64 d.at_.word, strV d.to.stem, .int .u8 d.to.mark, .int .i64 d.of_], .agg #[.int .i64 p.chapter, .int .i64 p.line, .int .i64 p.word], strV wd] w (Rets h w (fun _ _ res_ => res_ = .bool (false))) := by
 refine zP (n := 7) Tryz.func272 X X X<|have st0:=t_s0 hs;W.sr<|zJ st0 (cs := [.int .i64 (d.number), .int .u8 (d.kind), strV (d.form), .int .i64 (d.at_.chapter), .int .i64 (d.at_.line), .int .i64 (d.at_.word), strV (d.to.stem), .int .u8 (d.to.mark), .int .i64 (d.of_)]) X X X<|fun b1 w2 h3 le4 hc5 st6=>zJ st6 (cs := [.int .i64 (p.chapter), .int .i64 (p.line), .int .i64 (p.word)]) X X X<|fun b7 w8 h9 le10 hc11 st12=>zF X X<|Y<|W.sr<|zF X X<|Y<|zw<|zb Tryz.results272 ?_
 refine ⟨h9, _, rfl, st12.done, ?_⟩
 refine zx ?_
 rfl
theorem c_stem_Add_1 {h : Heap} {w : World} (hs : Sub h w) {a : Decision} (a_l2 : 0 ≤ a.kind ∧ a.kind ≤ 255) (a_l3 : a.form.length ≤ 281474976710656) (a_l7 : a.to.stem.length ≤ 281474976710656) (a_l8 : 0 ≤ a.to.mark ∧ a.to.mark ≤ 255) {b : Decision} (b_l2 : 0 ≤ b.kind ∧ b.kind ≤ 255) (b_l3 : b.form.length ≤ 281474976710656) (b_l7 : b.to.stem.length ≤ 281474976710656) (b_l8 : 0 ≤ b.to.mark ∧ b.to.mark ≤ 255) (ha : 1 ≤ a.number ∧ a.number ≤ 999) (hb : 1 ≤ b.number ∧ b.number ≤ 999) : Calls Tryz.prog 112 #[.agg #[.int .i64 a.number, .int .u8 a.kind, strV a.form, .int .i64 a.at_.chapter, .int .i64 a.at_.line, .int .i64 a.at_.word, strV a.to.stem, .int .u8 a.to.mark, .int .i64 a.of_], .agg #[.int .i64 b.number, .int .u8 b.kind, strV b.form, .int .i64 b.at_.chapter, .int .i64 b.at_.line, .int .i64 b.at_.word, strV b.to.stem, .int .u8 b.to.mark, .int .i64 b.of_]] w (Rets h w (fun _ _ res_ => res_ = .int .i64 (a.number - b.number))) := by
 refine zP (n := 10) Tryz.func112 X X X<|have st0:=t_s0 hs;W.sr<|zJ st0 (cs := [.int .i64 (a.number), .int .u8 (a.kind), strV (a.form), .int .i64 (a.at_.chapter), .int .i64 (a.at_.line), .int .i64 (a.at_.word), strV (a.to.stem), .int .u8 (a.to.mark), .int .i64 (a.of_)]) X X X<|fun b1 w2 h3 le4 hc5 st6=>zJ st6 (cs := [.int .i64 (b.number), .int .u8 (b.kind), strV (b.form), .int .i64 (b.at_.chapter), .int .i64 (b.at_.line), .int .i64 (b.at_.word), strV (b.to.stem), .int .u8 (b.to.mark), .int .i64 (b.of_)]) X X X<|fun b7 w8 h9 le10 hc11 st12=>zq X X<|Y<|W.sr<|E X zo X zl X X<|U (j := 0) st12.sub (hc5.up le10) X X X zz X<|E X zo X zl X X<|U (j := 0) st12.sub hc11 X X X zz X<|ziC X X t_om X<|zq X X<|Y<|zw<|zb Tryz.results112 ?_
 refine ⟨h9, _, rfl, st12.done, ?_⟩
 refine zah ?_
 rfl
end Go.Pk

namespace Go.Pk
open Go Go.RowKit Go.Proofs
theorem c_postilref04_Less {h : Heap} {w : World} (hs : Sub h w) {a : Head} (a_l1 : a.stem.length ≤ 281474976710656) (a_l2 : 0 ≤ a.mark ∧ a.mark ≤ 255) {b : Head} (b_l1 : b.stem.length ≤ 281474976710656) (b_l2 : 0 ≤ b.mark ∧ b.mark ≤ 255) : Calls Tryz.prog 148 #[.agg #[strV a.stem, .int .u8 a.mark], .agg #[strV b.stem, .int .u8 b.mark]] w (Rets h w (fun _ _ res_ => res_ = .bool (headLt a b))) := by
 refine zP (n := 24) Tryz.func148 X X X<|have st0:=t_s0 hs;W.sr<|zJ st0 (cs := [strV (a.stem), .int .u8 (a.mark)]) X X X<|fun b1 w2 h3 le4 hc5 st6=>zJ st6 (cs := [strV (b.stem), .int .u8 (b.mark)]) X X X<|fun b7 w8 h9 le10 hc11 st12=>zF X X<|Y<|W.sr<|E X zbn X zak X X<|U (j := 0) st12.sub (hc5.up le10) X X X zaD X<|E X zbn X zak X X<|U (j := 0) st12.sub hc11 X X X zaD X<|zi X X (r_slss X X)<|zS X X ?_
 refine zaw (d := 10) rfl (fun g13 => ?_) (fun g13 => ?_)
 ·
  refine M X X X X X<|M X X X X X<|M X X X X X<|M X X X X X<|M X X X X X<|M X X X X X<|zk X X X X<|zk X X X X<|zk X X X X<|zk X X X X<|zk X X X X<|M X X X X X<|zT (v := (.bool _)) X X X<|zF X X<|Y<|zw<|zb Tryz.results148 ?_
  refine ⟨h9, _, rfl, st12.done, ?_⟩
  refine zx ?_
  simp_all [headLt, sLt]
 refine Z X X X<|E X zbn X zak X X<|Z X X X<|U (j := 0) st12.sub (hc5.up le10) X X X zaD X<|Z X X X<|E X zbn X zak X X<|Z X X X<|U (j := 0) st12.sub hc11 X X X zaD X<|Z X X X<|v_seql X X X<|Z X X X<|zS X X ?_
 refine zY (d := 16) rfl (fun g14 => ?_) (fun g14 => ?_)
 ·
  refine Z X X X<|E X zbn X zbu X X<|Z X X X<|U (j := 1) st12.sub (hc5.up le10) X X X zbV X<|Z X X X<|E X zbn X zbu X X<|Z X X X<|U (j := 1) st12.sub hc11 X X X zbV X<|Z X X X<|zaX X X X<|Z X X X<|zT (v := (.bool _)) X X X<|zN (v := (.bool _)) X X X<|zF X X<|Y<|zw<|zb Tryz.results148 ?_
  refine ⟨h9, _, rfl, st12.done, ?_⟩
  refine zx ?_
  simp_all [headLt, sLt]
 refine M X X X X X<|M X X X X X<|M X X X X X<|M X X X X X<|M X X X X X<|Z X X X<|zN (v := (.bool _)) X X X<|zN (v := (.bool _)) X X X<|zF X X<|Y<|zw<|zb Tryz.results148 ?_
 refine ⟨h9, _, rfl, st12.done, ?_⟩
 refine zx ?_
 simp_all [headLt, sLt]
end Go.Pk
