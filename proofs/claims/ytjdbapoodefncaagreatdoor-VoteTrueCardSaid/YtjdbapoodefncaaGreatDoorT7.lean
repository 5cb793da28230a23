/- A PART OF THE PROOF: contracts of functions, each walked once (much of it printed by a program of the author's own). -/
import Derived.Test.YtjdbapoodefncaaGreatDoorT5
import Derived.Test.YtjdbapoodefncaaGreatDoorT2
set_option linter.unusedSimpArgs false
set_option linter.unusedVariables false
set_option maxRecDepth 4000
namespace Go.Pk
open Go Go.RowKit Go.Proofs
theorem zcy {h : Heap} {w : World} (hs : Sub h w) (n : Int) (lo : Int) (hi : Int) : Calls Tryz.prog 181 #[.int .i64 n, .int .i64 lo, .int .i64 hi] w (Rets h w (fun _ _ res_ => res_ = .bool (inB n lo hi))) := by
 refine zN (n := 15) Tryz.func181 X X X<|have st0:=zbl hs;zf<|zH X X<|Y<|zf<|zi X X<|zi X X<|zgY X X X<|zaa X X ?_;refine zae (d := 10) rfl (fun g1 => ?_) (fun g1 => ?_)
 ·refine Z X X X<|zi X X<|Z X X X<|zi X X<|Z X X X<|zj X X (r_leq X X)<|zX (v := (.bool _)) X X X<|zH X X<|Y<|zw<|zc Tryz.results181 ?_;refine ⟨h, _, rfl, st0.done, ?_⟩;refine zy ?_;simp [inB, *]
 refine zQ 3 X<|zT (v := (.bool _)) X X X<|zH X X<|Y<|zw<|zc Tryz.results181 ?_;refine ⟨h, _, rfl, st0.done, ?_⟩;refine zy ?_;simp [inB, *]
theorem zdG {h : Heap} {w : World} (hs : Sub h w) (n : Int) (lo : Int) (hi : Int) : Calls Tryz.prog 127 #[.int .i64 n, .int .i64 lo, .int .i64 hi] w (Rets h w (fun _ _ res_ => res_ = .bool (inB n lo hi))) := by
 refine zN (n := 15) Tryz.func127 X X X<|have st0:=zbl hs;zf<|zH X X<|Y<|zf<|zi X X<|zi X X<|zgY X X X<|zaa X X ?_;refine zae (d := 10) rfl (fun g1 => ?_) (fun g1 => ?_)
 ·refine Z X X X<|zi X X<|Z X X X<|zi X X<|Z X X X<|zj X X (r_leq X X)<|zX (v := (.bool _)) X X X<|zH X X<|Y<|zw<|zc Tryz.results127 ?_;refine ⟨h, _, rfl, st0.done, ?_⟩;refine zy ?_;simp [inB, *]
 refine zQ 3 X<|zT (v := (.bool _)) X X X<|zH X X<|Y<|zw<|zc Tryz.results127 ?_;refine ⟨h, _, rfl, st0.done, ?_⟩;refine zy ?_;simp [inB, *]
theorem zeO {h : Heap} {w : World} (hs : Sub h w) (s : Str) (s_le : s.length ≤ 281474976710656) : Calls Tryz.prog 129 #[zP s] w (Rets h w (fun _ _ res_ => res_ = .bool (zdH s))) := by
 refine zN (n := 23) Tryz.func129 X X X<|have st0:=zbl hs;zf<|zH X X<|Y<|zm<|zf<|zt X X<|Y<|zF ?_;refine zau (zbY 2 18) (G := Nat × Heap) (fun ⟨k, h1⟩ => [(3, .int .i64 (k : Int))]) (fun ⟨k, h1⟩ w' => Le h h1 ∧ St h w h1 w' [] ∧ (k ≤ s.length) ∧ ((s.take k).all isL = true)) (fun ⟨k, h1⟩ => s.length - k) ⟨0, h⟩ ⟨rfl, trivial⟩ ⟨Le.refl _, st0, zaX, zaX⟩ ?_;rintro ⟨k, h1⟩ _ w4 ⟨le2, st3, hk, ht⟩;refine zm<|zf<|zi X X<|zcs X X<|zcA X zax X<|zaW X X X<|Y ?_;refine zD rfl (fun c5 => ?_) (fun c5 => ?_)
 ·refine zx<|E<|zm<|zF<|zf<|zcs X X<|zi X X ?_;obtain ⟨y6, hy6⟩ : ∃ y_, (s)[k]? = some y_ := zbu zr;refine zj X X (ziy X X (hk := X) (hb := hy6) (hu := zax))<|zaW X X X<|zaa X X ?_;refine zae (d := 14) rfl (fun g7 => ?_) (fun g7 => ?_)
  ·refine zQ 4 X<|zX (v := (.bool _)) X X X<|Y ?_;refine zag rfl (fun c8 => ?_) (fun c8 => ?_)
   ·refine zf<|zH X X<|Y<|zw<|zI<|ze<|ze<|zI<|ze<|zc Tryz.results129 ?_;refine ⟨h1, _, rfl, st3.done, ?_⟩;refine zy ?_;have hn := zcM (p := isL) (by assumption) (by simp [isL]; omega);simp [zdH, zcN, hn]
   cases c8
  refine Z X X X<|zcs X X<|Z X X X<|zi X X<|Z X X X<|zj X X (ziy X X (hk := X) (hb := hy6) (hu := zax))<|Z X X X<|zdy X X X<|zT (v := (.bool _)) X X X<|Y ?_;refine zD rfl (fun c9 => ?_) (fun c9 => ?_)
  ·refine zf<|zH X X<|Y<|zw<|zI<|ze<|ze<|zI<|ze<|zc Tryz.results129 ?_;refine ⟨h1, _, rfl, st3.done, ?_⟩;refine zy ?_;have hn := zcM (p := isL) (by assumption) (by simp [isL]; omega);simp [zdH, zcN, hn]
  refine zx<|zL<|E<|zn<|zi X X<|zaF X X zaN X<|zt X X<|Y ?_;refine ⟨⟨k + 1, h1⟩, ⟨rfl, trivial⟩, ?_, ⟨le2, st3, ?_, ?_⟩, ?_⟩
  ·exact zar
  ·first | omega | (simp; omega)
  ·exact zcw ht (by assumption) (by simp [isL, *]; omega)
  show s.length - ((k + 1)) < s.length - k;omega
 refine zaI<|zo<|zo<|zam<|E<|zf<|zcs X X<|zcA X zax X<|zk st3 X X X zgC X (zcy st3.sub _ _ _)<|fun r10 w11 h12 le13 st14 q15=> ?_;subst q15;refine zH X X<|Y<|zw<|zc Tryz.results129 ?_;refine ⟨h12, _, rfl, st14.done, ?_⟩;refine zy ?_;have hn := zdc ht zr;simp [zdH, zcN, hn]
theorem zhc {h : Heap} {w : World} (hs : Sub h w) (s : Str) (s_le : s.length ≤ 281474976710656) (lo : Int) : Calls Tryz.prog 126 #[zP s, .int .i64 lo] w (Rets h w (fun _ _ res_ => res_ = .bool (zcN s lo))) := by
 refine zN (n := 26) Tryz.func126 X X X<|have st0:=zbl hs;zf<|zH X X<|Y<|zm<|zf<|zt X X<|Y<|zF ?_;refine zau (zbY 4 18) (G := Nat × Heap) (fun ⟨k, h1⟩ => [(5, .int .i64 (k : Int))]) (fun ⟨k, h1⟩ w' => Le h h1 ∧ St h w h1 w' [] ∧ (k ≤ s.length) ∧ ((s.take k).all isL = true)) (fun ⟨k, h1⟩ => s.length - k) ⟨0, h⟩ ⟨rfl, trivial⟩ ⟨Le.refl _, st0, zaX, zaX⟩ ?_;rintro ⟨k, h1⟩ _ w4 ⟨le2, st3, hk, ht⟩;refine zm<|zf<|zi X X<|zcs X X<|zcA X zax X<|zaW X X X<|Y ?_;refine zD rfl (fun c5 => ?_) (fun c5 => ?_)
 ·refine zx<|E<|zm<|zF<|zf<|zcs X X<|zi X X ?_;obtain ⟨y6, hy6⟩ : ∃ y_, (s)[k]? = some y_ := zbu zr;refine zj X X (ziy X X (hk := X) (hb := hy6) (hu := zax))<|zaW X X X<|zaa X X ?_;refine zae (d := 16) rfl (fun g7 => ?_) (fun g7 => ?_)
  ·refine zQ 4 X<|zX (v := (.bool _)) X X X<|Y ?_;refine zag rfl (fun c8 => ?_) (fun c8 => ?_)
   ·refine zf<|zH X X<|Y<|zw<|zI<|ze<|ze<|zI<|ze<|zc Tryz.results126 ?_;refine ⟨h1, _, rfl, st3.done, ?_⟩;refine zy ?_;have hn := zcM (p := isL) (by assumption) (by simp [isL]; omega);simp [zdH, zcN, hn]
   cases c8
  refine Z X X X<|zcs X X<|Z X X X<|zi X X<|Z X X X<|zj X X (ziy X X (hk := X) (hb := hy6) (hu := zax))<|Z X X X<|zdy X X X<|zT (v := (.bool _)) X X X<|Y ?_;refine zD rfl (fun c9 => ?_) (fun c9 => ?_)
  ·refine zf<|zH X X<|Y<|zw<|zI<|ze<|ze<|zI<|ze<|zc Tryz.results126 ?_;refine ⟨h1, _, rfl, st3.done, ?_⟩;refine zy ?_;have hn := zcM (p := isL) (by assumption) (by simp [isL]; omega);simp [zdH, zcN, hn]
  refine zx<|zL<|E<|zn<|zi X X<|zaF X X zaN X<|zt X X<|Y ?_;refine ⟨⟨k + 1, h1⟩, ⟨rfl, trivial⟩, ?_, ⟨le2, st3, ?_, ?_⟩, ?_⟩
  ·exact zar
  ·first | omega | (simp; omega)
  ·exact zcw ht (by assumption) (by simp [isL, *]; omega)
  show s.length - ((k + 1)) < s.length - k;omega
 refine zaI<|zo<|zo<|zam<|E<|zf<|zcs X X<|zcA X zax X<|zi X X<|zk st3 X X X Tryz.call127 X (zdG st3.sub _ _ _)<|fun r10 w11 h12 le13 st14 q15=> ?_;subst q15;refine zH X X<|Y<|zw<|zc Tryz.results126 ?_;refine ⟨h12, _, rfl, st14.done, ?_⟩;refine zy ?_;have hn := zdc ht zr;simp [zdH, zcN, hn]
theorem c_postilref04_Rule {h : Heap} {w : World} (hs : Sub h w) {r : Rule} (r_l1 : r.cut.length ≤ 281474976710656) (r_l2 : r.put.length ≤ 281474976710656) : Calls Tryz.prog 87 #[.agg #[zP r.cut, zP r.put, .int .i64 r.least]] w (Rets h w (fun _ _ res_ => res_ = .bool (zhx r))) := by
 refine zN (n := 23) Tryz.func87 X X X<|have st0:=zbl hs;zf<|zJ st0 (cs := [zP (r.cut), zP (r.put), .int .i64 (r.least)]) X X X<|fun b1 w2 h3 le4 hc5 st6=>zH X X<|Y<|zf<|U X zbz X zak X X<|M (j := 0) st6.sub hc5 X X X zaA X<|zk st6 X X X Tryz.call126 X (zhc st6.sub _ zbp _)<|fun r7 w8 h9 le10 st11 q12=> ?_;subst q12;refine zaa X X ?_;refine zay (d := 6) rfl (fun g13 => ?_) (fun g13 => ?_)
 ·refine Z X X X<|U X zbz X zak X X<|Z X X X<|M (j := 1) st11.sub (hc5.up le10) X X X zaA X<|Z X X X<|zk st11 X X X Tryz.call126 X (zhc st11.sub _ zbp _)<|fun r14 w15 h16 le17 st18 q19=> ?_;subst q19;refine zX (v := (.bool _)) X X X<|zaa X X ?_;refine zay (d := 11) rfl (fun g20 => ?_) (fun g20 => ?_)
  ·refine Z X X X<|U X zbz X zak X X<|Z X X X<|M (j := 0) st18.sub (hc5.up (le10.t le17)) X X X zaA X<|Z X X X<|U X zbz X zak X X<|Z X X X<|M (j := 1) st18.sub (hc5.up (le10.t le17)) X X X zaA X<|Z X X X<|zj X X (r_sneq X X)<|zX (v := (.bool _)) X X X<|zaa X X ?_;refine zae (d := 18) rfl (fun g21 => ?_) (fun g21 => ?_)
   ·refine Z X X X<|U X zbz X zl X X<|Z X X X<|M (j := 2) st18.sub (hc5.up (le10.t le17)) X X X zB X<|Z X X X<|zk st18 X X X Tryz.call127 X (zdG st18.sub _ _ _)<|fun r22 w23 h24 le25 st26 q27=> ?_;subst q27;refine zX (v := (.bool _)) X X X<|zH X X<|Y<|zw<|zc Tryz.results87 ?_;refine ⟨h24, _, rfl, st26.done, ?_⟩;refine zy ?_;simp_all [zhx]
   refine zQ 3 X<|zT (v := (.bool _)) X X X<|zH X X<|Y<|zw<|zc Tryz.results87 ?_;refine ⟨h16, _, rfl, st18.done, ?_⟩;refine zy ?_;simp_all [zhx]
  refine zQ 5 X<|zT (v := (.bool _)) X X X<|zaa X X<|zQ 3 X<|zT (v := (.bool _)) X X X<|zH X X<|Y<|zw<|zc Tryz.results87 ?_;refine ⟨h16, _, rfl, st18.done, ?_⟩;refine zy ?_;simp_all [zhx]
 refine zQ 3 X<|zT (v := (.bool _)) X X X<|zaa X X<|zQ 5 X<|zT (v := (.bool _)) X X X<|zaa X X<|zQ 3 X<|zT (v := (.bool _)) X X X<|zH X X<|Y<|zw<|zc Tryz.results87 ?_;refine ⟨h9, _, rfl, st11.done, ?_⟩;refine zy ?_;simp_all [zhx]
theorem zeN {h : Heap} {w : World} (hs : Sub h w) {hd : Head} (hd_l1 : hd.stem.length ≤ 281474976710656) (hd_l2 : 0 ≤ hd.mark ∧ hd.mark ≤ 255) : Calls Tryz.prog 130 #[.agg #[zP hd.stem, .int .u8 hd.mark]] w (Rets h w (fun _ _ res_ => res_ = .bool (zeg hd))) := by
 refine zN (n := 12) Tryz.func130 X X X<|have st0:=zbl hs;zf<|zJ st0 (cs := [zP (hd.stem), .int .u8 (hd.mark)]) X X X<|fun b1 w2 h3 le4 hc5 st6=>zH X X<|Y<|zf<|U X zbm X zak X X<|M (j := 0) st6.sub hc5 X X X zaA X<|zk st6 X X X Tryz.call129 X (zeO st6.sub _ zbp)<|fun r7 w8 h9 le10 st11 q12=> ?_;subst q12;refine zaa X X ?_;refine zay (d := 6) rfl (fun g13 => ?_) (fun g13 => ?_)
 ·refine Z X X X<|U X zbm X zbs X X<|Z X X X<|M (j := 1) st11.sub (hc5.up le10) X X X zbW X<|Z X X X ?_;refine zj rfl rfl (zhi rfl rfl zcg (IntWalk.i64_in _ zr)) ?_;refine Z X X X<|zk st11 X X X Tryz.call127 X (zdG st11.sub _ _ _)<|fun r14 w15 h16 le17 st18 q19=> ?_;subst q19;refine zX (v := (.bool _)) X X X<|zH X X<|Y<|zw<|zc Tryz.results130 ?_;refine ⟨h16, _, rfl, st18.done, ?_⟩;refine zy ?_;simp_all [zeg]
 refine zQ 4 X<|zT (v := (.bool _)) X X X<|zH X X<|Y<|zw<|zc Tryz.results130 ?_;refine ⟨h9, _, rfl, st11.done, ?_⟩;refine zy ?_;simp_all [zeg]
theorem c_postilref01_Before {h : Heap} {w : World} (hs : Sub h w) {a : Place} {b : Place} : Calls Tryz.prog 164 #[.agg #[.int .i64 a.chapter, .int .i64 a.line, .int .i64 a.word], .agg #[.int .i64 b.chapter, .int .i64 b.line, .int .i64 b.word]] w (Rets h w (fun _ _ res_ => res_ = .bool (zeq a b))) := by
 refine zN (n := 30) Tryz.func164 X X X<|have st0:=zbl hs;zf<|zJ st0 (cs := [.int .i64 (a.chapter), .int .i64 (a.line), .int .i64 (a.word)]) X X X<|fun b1 w2 h3 le4 hc5 st6=>zJ st6 (cs := [.int .i64 (b.chapter), .int .i64 (b.line), .int .i64 (b.word)]) X X X<|fun b7 w8 h9 le10 hc11 st12=>zH X X<|Y<|zm<|zf<|U X zan X zl X X<|M (j := 0) st12.sub (hc5.up le10) X X X zB X<|U X zan X zl X X<|M (j := 0) st12.sub hc11 X X X zB X<|zcL X X X<|Y ?_;refine zD rfl (fun c13 => ?_) (fun c13 => ?_)
 ·refine zf<|U X zan X zl X X<|M (j := 0) st12.sub (hc5.up le10) X X X zB X<|U X zan X zl X X<|M (j := 0) st12.sub hc11 X X X zB X<|zaW X X X<|zH X X<|Y<|zw<|ze<|zc Tryz.results164 ?_;refine ⟨h9, _, rfl, st12.done, ?_⟩;refine zy ?_;simp_all [zeq]
 refine zx<|E<|zm<|zf<|U X zan X zl X X<|M (j := 1) st12.sub (hc5.up le10) X X X zB X<|U X zan X zl X X<|M (j := 1) st12.sub hc11 X X X zB X<|zcL X X X<|Y ?_;refine zD rfl (fun c14 => ?_) (fun c14 => ?_)
 ·refine zf<|U X zan X zl X X<|M (j := 1) st12.sub (hc5.up le10) X X X zB X<|U X zan X zl X X<|M (j := 1) st12.sub hc11 X X X zB X<|zaW X X X<|zH X X<|Y<|zw<|ze<|zc Tryz.results164 ?_;refine ⟨h9, _, rfl, st12.done, ?_⟩;refine zy ?_;simp_all [zeq]
 refine zx<|E<|zf<|U X zan X zl X X<|M (j := 2) st12.sub (hc5.up le10) X X X zB X<|U X zan X zl X X<|M (j := 2) st12.sub hc11 X X X zB X<|zaW X X X<|zH X X<|Y<|zw<|zc Tryz.results164 ?_;refine ⟨h9, _, rfl, st12.done, ?_⟩;refine zy ?_;simp_all [zeq]
end Go.Pk

namespace Go.Pk
open Go Go.RowKit Go.Proofs
theorem c_postilref01_Text {h : Heap} {w : World} (hs : Sub h w) {t : Text} {t_v0 : Value} (t_f0 : Sl LChapter h t_v0 t.chapters) : Calls Tryz.prog 200 #[.agg #[t_v0]] w (Rets h w (fun _ _ res_ => res_ = .bool (zbk t))) := by
 refine zN (n := 85) Tryz.func200 X X X<|have st0:=zbl hs;have t_f0_b:=t_f0.le;zf<|zJ st0 (cs := [t_v0]) X X X<|fun b1 w2 h3 le4 hc5 st6=>zH X X<|Y<|zm<|zf<|U X zaP X zbw X X<|M (j := 0) st6.sub hc5 X X X zca X<|zaK (t_f0.up le4) X zaH X<|zk st6 X X X zgC X (zcy st6.sub _ _ _)<|fun r7 w8 h9 le10 st11 q12=> ?_;subst q12;refine zby X X<|Y ?_;refine zag rfl (fun c13 => ?_) (fun c13 => ?_)
 ·refine zf<|zH X X<|Y<|zw<|ze<|zc zeP ?_;refine ⟨h9, _, rfl, st11.done, ?_⟩;refine zy ?_;simp_all [zbk]
 refine zx<|E<|zm<|zf<|zt X X<|Y<|zF ?_;refine zau (zbY 2 6 ++ zbY 13 72) (G := Nat × Heap) (fun ⟨i, h14⟩ => [(3, .int .i64 (i : Int))]) (fun ⟨i, h14⟩ w' => Le h9 h14 ∧ St h w h14 w' [] ∧ (i ≤ t.chapters.length) ∧ ((t.chapters.take i).all zbM = true) ∧ (((t.chapters.take i).map (·.id)).Nodup)) (fun ⟨i, h14⟩ => t.chapters.length - i) ⟨0, h9⟩ ⟨rfl, trivial⟩ ⟨Le.refl _, st11, zaX, zaX, zaX⟩ ?_;rintro ⟨i, h14⟩ _ w17 ⟨le15, st16, hi, hA, hN⟩;refine zm<|zf<|zi X X<|U X zaP X zbw X X<|M (j := 0) st16.sub (hc5.up (le10.t le15)) X X X zca X<|have l18:=(le4.t le10).t le15;zaK (t_f0.up l18) X zaH X<|zaW X X X<|Y ?_;refine zD rfl (fun c19 => ?_) (fun c19 => ?_)
 ·refine zx<|E<|zm<|zF<|zf<|U X zaP X zbw X X<|M (j := 0) st16.sub (hc5.up (le10.t le15)) X X X zca X<|zi X X ?_;obtain ⟨c, hc⟩ : ∃ y_, (t.chapters)[i]? = some y_ := zbu zr;obtain ⟨b20, o21, _, he23, hc22, hr_c⟩ := Sl.elem (t_f0.up l18) hc;obtain ⟨v24, rfl, f25⟩ := hr_c;have f25_b := f25.le;refine zS he23 X X (hk := X) (hu := zaH) (hz := zbA) X<|zA st16.sub hc22 X Tryz.isAgg107 zbA X X<|zV st16 Tryz.zeroValue107 X X<|fun b26 w27 st28=>zM st28 (k := 0) X X X (zb X (zb f25.one zat)) zbA X X X<|fun w29 st30=> ?_;obtain ⟨h31, le32, hb33, st35⟩ := st30.freeze (k := 0) rfl;have hc34 := Cells.of hb33;refine Y<|zm<|zf<|U X zaD X zl X X<|M (j := 0) st35.sub hc34 X X X zB X<|zk st35 X X X zgC X (zcy st35.sub _ _ _)<|fun r36 w37 h38 le39 st40 q41=> ?_;subst q41;refine zby X X<|zaa X X ?_;refine zay (d := 29) rfl (fun g42 => ?_) (fun g42 => ?_)
  ·refine zQ 5 X<|zX (v := (.bool _)) X X X<|Y ?_;refine zag rfl (fun c43 => ?_) (fun c43 => ?_)
   ·refine zf<|zH X X<|Y<|zw<|ze<|zI<|ze<|ze<|zI<|ze<|zc zeP ?_;refine ⟨h38, _, rfl, st40.done, ?_⟩;refine zy ?_;have q0 : zbM c = false := by simp_all [zbM]
    have q := zcM (p := zbM) hc q0;simp [zbk, q]
   cases c43
  refine Z X X X<|U X zaD X zbJ X X<|Z X X X<|M (j := 1) st40.sub (hc34.up le39) X X X zcn X<|Z X X X<|zaK (f25.up (le32.t le39)) X zaO X<|Z X X X<|zk st40 X X X zgC X (zcy st40.sub _ _ _)<|fun r44 w45 h46 le47 st48 q49=> ?_;subst q49;refine Z X X X<|zby X X<|zT (v := (.bool _)) X X X<|Y ?_;refine zag rfl (fun c50 => ?_) (fun c50 => ?_)
  ·refine zf<|zH X X<|Y<|zw<|ze<|zI<|ze<|ze<|zI<|ze<|zc zeP ?_;refine ⟨h46, _, rfl, st48.done, ?_⟩;refine zy ?_;have q0 : zbM c = false := by simp_all [zbM]
   have q := zcM (p := zbM) hc q0;simp [zbk, q]
  refine zx<|E<|zm<|zf<|zt X X<|Y<|zF ?_;refine zau ([2, 5] ++ zbY 36 14) (G := Nat × Heap) (fun ⟨k1, h51⟩ => [(5, .int .i64 (k1 : Int))]) (fun ⟨k1, h51⟩ w' => Le h46 h51 ∧ St h w h51 w' [[]] ∧ (k1 ≤ i) ∧ (∀ j c2, j < k1 → t.chapters[j]? = some c2 → c2.id ≠ c.id)) (fun ⟨k1, h51⟩ => i - k1) ⟨0, h46⟩ ⟨rfl, trivial⟩ ⟨Le.refl _, st48, zaX, (by intro j _ hj; omega)⟩ ?_;rintro ⟨k1, h51⟩ _ w54 ⟨le52, st53, hk1, hd⟩;refine zm<|zf<|zi X X<|zi X X<|zaW X X X<|Y ?_;refine zD rfl (fun c55 => ?_) (fun c55 => ?_)
  ·refine zx<|E<|zm<|zF<|zm<|zcb Tryz.mixed za (Cls h51 _) (Cls.drew st53)<|zZ X zaP X zbw X X<|have l56:=((((le10.t le15).t le32).t le39).t le47).t le52;zG X X (fun _ hC => (zh (j := 0) hC.sub (hc5.up l56) X X X zca))<|zdo X X ?_;obtain ⟨cc, hcc⟩ : ∃ y_, (t.chapters)[k1]? = some y_ := zbu zr;have l61 := (((l18.t le32).t le39).t le47).t le52;obtain ⟨b57, o58, _, he60, hc59, hr_cc⟩ := Sl.elem (t_f0.up l61) hcc;obtain ⟨v62, rfl, f63⟩ := hr_cc;have f63_b := f63.le;refine zcd he60 X X (hk := X) (hu := zaH) (hz := zbA) X<|zZ X zaD X zl X X<|zG X X (fun _ hC => (zh (j := 0) hC.sub hc59 X X X zB))<|zZ X zaD X zl X X<|zG X X (fun _ hC => (zh (j := 0) hC.sub (hc34.up ((le39.t le47).t le52)) X X X zB))<|u_eql X X X<|zbE ?_;rintro w64 ⟨h65, s66⟩;have st67 := st53.call0 s66;refine E ?_;refine zD rfl (fun c68 => ?_) (fun c68 => ?_)
   ·refine zf<|zH X X<|Y<|zw<|zI<|ze<|ze<|zI<|ze<|zI<|ze<|ze<|zI<|ze<|zc zeP ?_;refine ⟨h65, _, rfl, st67.done, ?_⟩;refine zy ?_;have q := ziU (f := (·.id)) hcc hc zr (by assumption);simp [zbk, q]
   refine zx<|zL<|E<|zn<|zi X X<|zaF X X zaN X<|zt X X<|Y ?_;refine ⟨⟨k1 + 1, h65⟩, ⟨rfl, trivial⟩, ?_, ⟨(le52.trans s66.le), st67, ?_, ?_⟩, ?_⟩
   ·exact zar
   ·first | omega | (simp; omega)
   ·intro j c2 h1 h2
    rcases Nat.lt_or_ge j k1 with h3 | h3
    ·exact hd j c2 h3 h2
    ·obtain rfl : j = k1 := by omega
     rw [h2] at hcc; cases hcc; assumption
   show i - ((k1 + 1)) < i - k1;omega
  refine zaI<|zo<|zo<|zam<|E<|zf<|zt X X<|Y<|zF ?_;refine zau ([2, 6, 7] ++ zbY 50 35) (G := Nat × Heap) (fun ⟨k2, h69⟩ => [(6, .int .i64 (k2 : Int))]) (fun ⟨k2, h69⟩ w' => Le h51 h69 ∧ St h w h69 w' [[]] ∧ (k2 ≤ c.lines.length) ∧ ((c.lines.take k2).all zgO = true)) (fun ⟨k2, h69⟩ => c.lines.length - k2) ⟨0, h51⟩ ⟨rfl, trivial⟩ ⟨Le.refl _, st53, zaX, zaX⟩ ?_;rintro ⟨k2, h69⟩ _ w72 ⟨le70, st71, hk2, hl⟩;refine zm<|zf<|zi X X<|U X zaD X zbJ X X<|have l73:=((le39.t le47).t le52).t le70;M (j := 1) st71.sub (hc34.up l73) X X X zcn X<|have l74:=(((le32.t le39).t le47).t le52).t le70;zaK (f25.up l74) X zaO X<|zaW X X X<|Y ?_;refine zD rfl (fun c75 => ?_) (fun c75 => ?_)
  ·refine zx<|E<|zm<|zF<|zm<|zf<|U X zaD X zbJ X X<|M (j := 1) st71.sub (hc34.up l73) X X X zcn X<|zi X X ?_;obtain ⟨ln, hln⟩ : ∃ y_, (c.lines)[k2]? = some y_ := zbu zr;obtain ⟨b76, o77, _, he79, hc78, hr_ln⟩ := Sl.elem (f25.up l74) hln;obtain ⟨v80, rfl, f81⟩ := hr_ln;have f81_b := f81.le;refine zS he79 X X (hk := X) (hu := zaO) (hz := zdQ) X<|M (j := 0) st71.sub hc78 X X X zen X<|zaK f81 X zW X<|zk st71 X X X zgC X (zcy st71.sub _ _ _)<|fun r82 w83 h84 le85 st86 q87=> ?_;subst q87;refine zby X X<|Y ?_;refine zag rfl (fun c88 => ?_) (fun c88 => ?_)
   ·refine zf<|zH X X<|Y<|zw<|ze<|zI<|ze<|ze<|zI<|zI<|ze<|ze<|zI<|ze<|zc zeP ?_;refine ⟨h84, _, rfl, st86.done, ?_⟩;refine zy ?_;have q1 : zgO ln = false := by simp_all [zgO]
    have q2 := zcM (p := zgO) hln q1;have q0 : zbM c = false := by simp [zbM, q2]
    have q := zcM (p := zbM) hc q0;simp [zbk, q]
   refine zx<|E<|zf<|zt X X<|Y<|zF ?_;refine zau ([2, 7] ++ zbY 65 20) (G := Nat × Heap) (fun ⟨k3, h89⟩ => [(7, .int .i64 (k3 : Int))]) (fun ⟨k3, h89⟩ w' => Le h84 h89 ∧ St h w h89 w' [[]] ∧ (k3 ≤ ln.length) ∧ ((ln.take k3).all zdH = true)) (fun ⟨k3, h89⟩ => ln.length - k3) ⟨0, h84⟩ ⟨rfl, trivial⟩ ⟨Le.refl _, st86, zaX, zaX⟩ ?_;rintro ⟨k3, h89⟩ _ w92 ⟨le90, st91, hk3, hw⟩;refine zm<|zf<|zi X X<|U X zaD X zbJ X X<|M (j := 1) st91.sub (hc34.up ((l73.t le85).t le90)) X X X zcn X<|zi X X<|zS he79 X X (hk := X) (hu := zaO) (hz := zdQ) X<|M (j := 0) st91.sub (hc78.up (le85.t le90)) X X X zen X<|zaK (f81.up (le85.t le90)) X zW X<|zaW X X X<|Y ?_;refine zD rfl (fun c93 => ?_) (fun c93 => ?_)
   ·refine zx<|E<|zm<|zF<|zf<|U X zaD X zbJ X X<|M (j := 1) st91.sub (hc34.up ((l73.t le85).t le90)) X X X zcn X<|zi X X<|zS he79 X X (hk := X) (hu := zaO) (hz := zdQ) X<|M (j := 0) st91.sub (hc78.up (le85.t le90)) X X X zen X<|zi X X ?_;obtain ⟨y94, hy94⟩ : ∃ y_, (ln)[k3]? = some y_ := zbu zr;obtain ⟨b95, o96, _, he98, hc97, hr_y94⟩ := Sl.elem (f81.up (le85.t le90)) hy94;obtain ⟨rfl, ls99⟩ := hr_y94;simp only [big] at ls99;refine zS he98 X X (hk := X) (hu := zW) (hz := zak) X<|M (j := 0) st91.sub hc97 X X X zaA X<|zk st91 X X X Tryz.call129 X (zeO st91.sub _ zbp)<|fun r100 w101 h102 le103 st104 q105=> ?_;subst q105;refine zby X X<|Y ?_;refine zag rfl (fun c106 => ?_) (fun c106 => ?_)
    ·refine zf<|zH X X<|Y<|zw<|zI<|ze<|ze<|zI<|zI<|ze<|ze<|zI<|zI<|ze<|ze<|zI<|ze<|zc zeP ?_;refine ⟨h102, _, rfl, st104.done, ?_⟩;refine zy ?_;have q3 := zcM (p := zdH) (by assumption) (by simpa using c106);have q1 : zgO ln = false := by simp [zgO, q3]
     have q2 := zcM (p := zgO) hln q1;have q0 : zbM c = false := by simp [zbM, q2]
     have q := zcM (p := zbM) hc q0;simp [zbk, q]
    refine zx<|zL<|E<|zn<|zi X X<|zaF X X zaN X<|zt X X<|Y ?_;refine ⟨⟨k3 + 1, h102⟩, ⟨rfl, trivial⟩, ?_, ⟨(le90.t le103), st104, ?_, ?_⟩, ?_⟩
    ·exact zar
    ·first | omega | (simp; omega)
    ·exact zcw hw (by assumption) (by simp_all)
    show ln.length - ((k3 + 1)) < ln.length - k3;omega
   refine zaI<|zo<|zo<|zam<|zL<|E<|zn<|zi X X<|zaF X X zaN X<|zt X X<|Y ?_;refine ⟨⟨k2 + 1, h89⟩, ⟨rfl, trivial⟩, ?_, ⟨((le70.t le85).t le90), st91, ?_, ?_⟩, ?_⟩
   ·exact zar
   ·first | omega | (simp; omega)
   ·exact zcw hl hln (by simp_all [zgO, zdc hw zr])
   show c.lines.length - ((k2 + 1)) < c.lines.length - k2;omega
  refine zaI<|zo<|zo<|zam<|zL<|E<|zn<|zi X X<|zaF X X zaN X<|zt X X<|Y ?_;have HCH : zbM c = true := by
   have q := zdc hl zr;simp_all [zbM]
  have l107 := ((((le15.t le32).t le39).t le47).t le52).t le70;refine ⟨⟨i + 1, h69⟩, ⟨rfl, trivial⟩, ?_, ⟨l107, st71.take 0, ?_, ?_, ?_⟩, ?_⟩
  ·exact zar
  ·first | omega | (simp; omega)
  ·exact zcw hA hc HCH
  ·exact nodup_take_succ hN hc zr (fun j c2 h1 h2 => hd j c2 zr h2)
  show t.chapters.length - ((i + 1)) < t.chapters.length - i;omega
 refine zaI<|zo<|zo<|zam<|E<|zf<|zH X X<|Y<|zw<|zc zeP ?_;refine ⟨h14, _, rfl, st16.done, ?_⟩;refine zy ?_;have q := zdc hA zr;have q2 : t.chapters.take i = t.chapters := List.take_of_length_le zr;rw [q2] at hN;simp_all [zbk]
theorem c_postilref01_Check {h : Heap} {w : World} (hs : Sub h w) {t : Text} {t_v0 : Value} (t_f0 : Sl LChapter h t_v0 t.chapters) : Calls Tryz.prog 163 #[.agg #[t_v0]] w (Rets h w (fun _ _ res_ => res_ = .int .i64 ((if zbk t then 0 else 10)))) := by
 refine zN (n := 6) Tryz.func163 X X X<|have st0:=zbl hs;have t_f0_b:=t_f0.le;zf<|zJ st0 (cs := [t_v0]) X X X<|fun b1 w2 h3 le4 hc5 st6=>zt X X<|Y<|zm<|zf<|zA st6.sub hc5 X zbj zav X X<|zk st6 X X X Tryz.call200 X (c_postilref01_Text st6.sub (t := t) (t_f0.up le4))<|fun r7 w8 h9 le10 st11 q12=> ?_;subst q12;refine zby X X<|Y ?_;refine zag rfl (fun c13 => ?_) (fun c13 => ?_)
 ·refine zf<|zt X X<|Y<|zw<|ze<|zc Tryz.results163 ?_;refine ⟨h9, _, rfl, st11.done, ?_⟩;refine zad ?_;simp_all
 refine zx<|E<|zf<|zt X X<|Y<|zw<|zc Tryz.results163 ?_;refine ⟨h9, _, rfl, st11.done, ?_⟩;refine zad ?_;simp_all
theorem c_postilref01_line {h : Heap} {w : World} (hs : Sub h w) {t : Text} {t_v0 : Value} (t_f0 : Sl LChapter h t_v0 t.chapters) {p : Place} : Calls Tryz.prog 180 #[.agg #[t_v0], .agg #[.int .i64 p.chapter, .int .i64 p.line, .int .i64 p.word]] w (Rets h w (fun h' _ res_ => ∃ u0, res_ = .tuple #[u0, .bool ((zcZ t p).isSome)] ∧ Sl LStr h' u0 ((zcZ t p).getD []))) := by
 refine zN (n := 40) Tryz.func180 X X X<|have st0:=zbl hs;have t_f0_b:=t_f0.le;zf<|zJ st0 (cs := [t_v0]) X X X<|fun b1 w2 h3 le4 hc5 st6=>zJ st6 (cs := [.int .i64 (p.chapter), .int .i64 (p.line), .int .i64 (p.word)]) X X X<|fun b7 w8 h9 le10 hc11 st12=>zcP X X<|zH X X<|Y<|zm<|zm<|zcb Tryz.mixed za (Cls h9 _) (Cls.drew st12)<|zZ X zan X zl X X<|zG X X (fun _ hC => (zh (j := 0) hC.sub hc11 X X X zB))<|zZ X zaP X zbw X X<|zG X X (fun _ hC => (zh (j := 0) hC.sub (hc5.up le10) X X X zca))<|have l13:=le4.t le10;u_len (t_f0.up l13) X zaH X<|u_sub X X zaN X<|zcK X X (fun _ => zaZ X zgC X) (fun _ hC => Rets.quiet hC (zcy hC.sub _ _ _))<|u_not X X<|ziv X X ?_;refine zgq (d := 14) rfl (fun g14 => ?_) (fun g14 => ?_)
 ·refine zgi 13 X<|zge (v := (.bool _)) X X X<|zbE ?_;rintro w15 ⟨h16, s17⟩;have st18 := st12.call0 s17;refine E ?_;refine zag rfl (fun c19 => ?_) (fun c19 => ?_)
  ·refine zf<|zcP X X<|zH X X<|Y<|zw<|ze<|zbb Tryz.results180 ?_;refine ⟨h16, _, rfl, st18.done, ?_⟩;refine ⟨_, zdr rfl (zy ?_), Sl.to (Sl.nil _ _) ?_⟩
   all_goals have q := g14
   all_goals simp [inB] at q
   ·have q2 : zcZ t p = none := line_none1 zr;simp [q2]
   have q2 : zcZ t p = none := line_none1 zr;simp [q2]
  cases c19
 refine zK X X X<|zZ X zan X zl X X<|zK X X X<|zG X X (fun _ hC => (zh (j := 1) hC.sub hc11 X X X zB))<|zK X X X<|zZ X zaP X zbw X X<|zK X X X<|zG X X (fun _ hC => (zh (j := 0) hC.sub (hc5.up le10) X X X zca))<|zK X X X<|zZ X zan X zl X X<|zK X X X<|zG X X (fun _ hC => (zh (j := 0) hC.sub hc11 X X X zB))<|zK X X X ?_;have q1 : 0 ≤ p.chapter ∧ p.chapter < t.chapters.length := by
  have q := g14;simp [inB] at q;omega
 obtain ⟨c, hc⟩ : ∃ y_, (t.chapters)[p.chapter.toNat]? = some y_ := zbu zr;obtain ⟨b20, o21, _, he23, hc22, hr_c⟩ := Sl.elem (t_f0.up l13) hc;obtain ⟨v24, rfl, f25⟩ := hr_c;have f25_b := f25.le;refine zG rfl rfl (fun _ _ => (zas he23 rfl rfl (hk := (show _ = ((p.chapter.toNat : Nat) : Int) by omega)) (hu := zaH) (hz := zbA))) ?_;refine zK X X X<|zZ X zaD X zbJ X X<|zK X X X<|zG X X (fun _ hC => (zh (j := 1) hC.sub hc22 X X X zcn))<|zK X X X<|u_len f25 X zaO X<|zK X X X<|u_sub X X zaN X<|zK X X X<|zcK X X (fun _ => zaZ X zgC X) (fun _ hC => Rets.quiet hC (zcy hC.sub _ _ _))<|zK X X X<|u_not X X<|zff (v := (.bool _)) X X X<|zbE ?_;rintro w26 ⟨h27, s28⟩;have st29 := st12.call0 s28;refine E ?_;refine zag rfl (fun c30 => ?_) (fun c30 => ?_)
 ·refine zf<|zcP X X<|zH X X<|Y<|zw<|ze<|zbb Tryz.results180 ?_;refine ⟨h27, _, rfl, st29.done, ?_⟩;refine ⟨_, zdr rfl (zy ?_), Sl.to (Sl.nil _ _) ?_⟩
  all_goals have q := c30
  all_goals simp [inB] at q
  ·have q2 : zcZ t p = none := line_none2 hc zr;simp [q2]
  have q2 : zcZ t p = none := line_none2 hc zr;simp [q2]
 refine zx<|E<|zm ?_;have q2 : 0 ≤ p.line ∧ p.line < c.lines.length := by
  have q := c30;simp [inB] at q;omega
 refine zcb Tryz.mixed za (Cls h27 _) (Cls.drew st29)<|zZ X zaP X zbw X X<|zG X X (fun _ hC => (zh (j := 0) hC.sub (hc5.up (le10.trans s28.le)) X X X zca))<|zZ X zan X zl X X<|zG X X (fun _ hC => (zh (j := 0) hC.sub (hc11.up s28.le) X X X zB)) ?_;refine zG rfl rfl (fun _ _ => (zas he23 rfl rfl (hk := (show _ = ((p.chapter.toNat : Nat) : Int) by omega)) (hu := zaH) (hz := zbA))) ?_;refine zZ X zaD X zbJ X X<|zG X X (fun _ hC => (zh (j := 1) hC.sub (hc22.up s28.le) X X X zcn))<|zZ X zan X zl X X<|zG X X (fun _ hC => (zh (j := 1) hC.sub (hc11.up s28.le) X X X zB)) ?_;obtain ⟨ln, hln⟩ : ∃ y_, (c.lines)[p.line.toNat]? = some y_ := zbu zr;obtain ⟨b31, o32, _, he34, hc33, hr_ln⟩ := Sl.elem (f25.up s28.le) hln;obtain ⟨v35, rfl, f36⟩ := hr_ln;have f36_b := f36.le;refine zG rfl rfl (fun _ _ => (zas he34 rfl rfl (hk := (show _ = ((p.line.toNat : Nat) : Int) by omega)) (hu := zaO) (hz := zdQ))) ?_;refine zG X X (fun _ hC => (zh (j := 0) hC.sub hc33 X X X zen))<|u_assign (v := v35) X X<|u_asB X X<|zbE ?_;rintro w37 ⟨h38, s39⟩;have st40 := st29.call0 s39;refine E<|zw<|zbb Tryz.results180 ?_;refine ⟨h38, _, rfl, st40.done, ?_⟩;refine ⟨_, zdr rfl (zy ?_), Sl.to (f36.up s39.le) ?_⟩
 ·simp [line_some hc q1.1 hln q2.1]
 simp [line_some hc q1.1 hln q2.1]
theorem zhM {h : Heap} {w : World} (hs : Sub h w) {t : Text} {t_v0 : Value} (t_f0 : Sl LChapter h t_v0 t.chapters) {p : Place} : Calls Tryz.prog 128 #[.agg #[t_v0], .agg #[.int .i64 p.chapter, .int .i64 p.line, .int .i64 p.word]] w (Rets h w (fun _ _ res_ => res_ = .bool (zbG t p))) := by
 refine zN (n := 22) Tryz.func128 X X X<|have st0:=zbl hs;have t_f0_b:=t_f0.le;zf<|zJ st0 (cs := [t_v0]) X X X<|fun b1 w2 h3 le4 hc5 st6=>zJ st6 (cs := [.int .i64 (p.chapter), .int .i64 (p.line), .int .i64 (p.word)]) X X X<|fun b7 w8 h9 le10 hc11 st12=>zH X X<|Y<|zf<|zA st12.sub (hc5.up le10) X zbj zav X X<|zA st12.sub hc11 X zaR zY X X<|have l13:=le4.t le10;zk st12 X X X Tryz.call180 X (c_postilref01_line st12.sub (t := t) (t_f0.up l13) (p := p))<|fun r14 w15 h16 le17 st18 q19=> ?_;obtain ⟨v20, rfl, f21⟩ := q19;have f21_b := f21.le;refine zcR X X<|zU (v := v20) X X X<|zU (v := (.bool _)) X X X<|zah (v := v20) X X<|zH X X<|Y<|zf<|zaa X X<|zaa X X ?_;refine zay (d := 14) rfl (fun g22 => ?_) (fun g22 => ?_)
 ·refine Z X X X<|U X zan X zl X X<|Z X X X<|M (j := 2) st18.sub (hc11.up le17) X X X zB X<|Z X X X<|zR (v := v20) X X<|Z X X X<|zaK f21 X zW X<|Z X X X<|ziO X X zaN X<|Z X X X<|zk st18 X X X zgC X (zcy st18.sub _ _ _)<|fun r23 w24 h25 le26 st27 q28=> ?_;subst q28;refine zX (v := (.bool _)) X X X<|zH X X<|Y<|zw<|zc Tryz.results128 ?_;refine ⟨h25, _, rfl, st27.done, ?_⟩;refine zy ?_;simp_all [place_eq]
 refine zQ 6 X<|zT (v := (.bool _)) X X X<|zH X X<|Y<|zw<|zc Tryz.results128 ?_;refine ⟨h16, _, rfl, st18.done, ?_⟩;refine zy ?_;simp_all [place_eq]
theorem zjw {h : Heap} {w : World} (hs : Sub h w) {t : Text} {t_v0 : Value} (t_f0 : Sl LChapter h t_v0 t.chapters) {d : Decision} (d_l2 : 0 ≤ d.kind ∧ d.kind ≤ 255) (d_l3 : d.form.length ≤ 281474976710656) (d_l7 : d.to.stem.length ≤ 281474976710656) (d_l8 : 0 ≤ d.to.mark ∧ d.to.mark ≤ 255) : Calls Tryz.prog 88 #[.agg #[t_v0], .agg #[.int .i64 d.number, .int .u8 d.kind, zP d.form, .int .i64 d.at_.chapter, .int .i64 d.at_.line, .int .i64 d.at_.word, zP d.to.stem, .int .u8 d.to.mark, .int .i64 d.of_]] w (Rets h w (fun _ _ res_ => res_ = .bool (zaj t d))) := by
 refine zN (n := 102) Tryz.func88 X X X<|have st0:=zbl hs;have t_f0_b:=t_f0.le;zf<|zJ st0 (cs := [t_v0]) X X X<|fun b1 w2 h3 le4 hc5 st6=>zJ st6 (cs := [.int .i64 (d.number), .int .u8 (d.kind), zP (d.form), .int .i64 (d.at_.chapter), .int .i64 (d.at_.line), .int .i64 (d.at_.word), zP (d.to.stem), .int .u8 (d.to.mark), .int .i64 (d.of_)]) X X X<|fun b7 w8 h9 le10 hc11 st12=>zH X X<|Y<|zm<|zf<|U X zp X zl X X<|M (j := 0) st12.sub hc11 X X X zB X<|zk st12 X X X Tryz.call127 X (zdG st12.sub _ _ _)<|fun r13 w14 h15 le16 st17 q18=> ?_;subst q18;refine zby X X<|Y ?_;refine zag rfl (fun c19 => ?_) (fun c19 => ?_)
 ·refine zf<|zH X X<|Y<|zw<|ze<|zc zcq ?_;refine ⟨h15, _, rfl, st17.done, ?_⟩;refine zy ?_;simp_all [zaj]
 have qn : 1 ≤ d.number ∧ d.number ≤ 999 := by
  have q := c19;simp [inB] at q;omega
 refine zx<|E<|zf<|zj X X (zbq (cs := [.int .i64 0, .int .i64 0, .int .i64 0]) za)<|zj X X (zbq (cs := [zP [], .int .u8 0]) za)<|zA st17.sub (hc5.up (le10.t le16)) X zbj zav X X<|U X zp X zY X X<|zal (j := 3) st17.sub (hc11.up le16) (us := [.int .i64 (d.at_.chapter), .int .i64 (d.at_.line), .int .i64 (d.at_.word)]) X X zaR zY X X X<|have l20:=(le4.t le10).t le16;zk st17 X X X Tryz.call128 X (zhM st17.sub (t := t) (t_f0.up l20) (p := d.at_))<|fun r21 w22 h23 le24 st25 q26=> ?_;subst q26;refine zV st25 Tryz.zeroValue49 X X<|fun b27 w28 st29=>zV st29 zeW X X<|fun b30 w31 st32=>zM st32 (k := 0) X X X (zb X (zb X (zb X zat))) zY X X X<|fun w33 st34=> ?_;obtain ⟨h35, le36, hb37, st39⟩ := st34.freeze (k := 0) rfl;have hc38 := Cells.of hb37;refine zM st39 (k := 1) X X X (zb X (zb X zat)) zai X X X<|fun w40 st41=> ?_;obtain ⟨h42, le43, hb44, st46⟩ := st41.freeze (k := 1) rfl;have hc45 := Cells.of hb44;refine zH X X<|Y<|zm<|zf<|U X zp X zbs X X<|have l47:=((le16.t le24).t le36).t le43;M (j := 1) st46.sub (hc11.up l47) X X X zbW X<|Y<|zF<|zf<|zdk X X X<|zH X X<|Y ?_;refine zD rfl (fun c48 => ?_) (fun c48 => ?_)
 ·refine zf<|U X zp X zak X X<|M (j := 2) st46.sub (hc11.up l47) X X X zaA X<|zk st46 X X X Tryz.call129 X (zeO st46.sub _ zbp)<|fun r49 w50 h51 le52 st53 q54=> ?_;subst q54;refine zaa X X ?_;refine zay (d := 25) rfl (fun g55 => ?_) (fun g55 => ?_)
  ·refine Z X X X<|U X zp X zY X X<|Z X X X<|zal (j := 3) st53.sub (hc11.up (l47.t le52)) (us := [.int .i64 (d.at_.chapter), .int .i64 (d.at_.line), .int .i64 (d.at_.word)]) X X zaR zY X X X<|Z X X X<|zA st53.sub (hc38.up (le43.t le52)) X zaR zY X X<|Z X X X<|zj X X (zhq X X Tryz.eqGuardType49 (Tryz.eq_Place d.at_ zdE))<|zX (v := (.bool _)) X X X<|zaa X X ?_;refine zae (d := 31) rfl (fun g56 => ?_) (fun g56 => ?_)
   ·refine Z X X X<|U X zp X zai X X<|Z X X X<|zal (j := 6) st53.sub (hc11.up (l47.t le52)) (us := [zP (d.to.stem), .int .u8 (d.to.mark)]) X X zbQ zai X X X<|Z X X X<|zk st53 X X X Tryz.call130 X (zeN st53.sub (hd := d.to) zbp zes)<|fun r57 w58 h59 le60 st61 q62=> ?_;subst q62;refine zX (v := (.bool _)) X X X<|zaa X X ?_;refine zay (d := 36) rfl (fun g63 => ?_) (fun g63 => ?_)
    ·refine Z X X X<|U X zp X zl X X<|Z X X X<|M (j := 8) st61.sub (hc11.up ((l47.t le52).t le60)) X X X zB X<|Z X X X<|zdk X X X<|zX (v := (.bool _)) X X X<|zH X X<|Y<|zw<|zI<|ze<|zc zcq ?_;refine ⟨h59, _, rfl, st61.done, ?_⟩;refine zy ?_;simp_all [zaj]
    refine zQ 3 X<|zT (v := (.bool _)) X X X<|zH X X<|Y<|zw<|zI<|ze<|zc zcq ?_;refine ⟨h59, _, rfl, st61.done, ?_⟩;refine zy ?_;simp_all [zaj]
   refine zQ 3 X<|zT (v := (.bool _)) X X X<|zaa X X<|zQ 3 X<|zT (v := (.bool _)) X X X<|zH X X<|Y<|zw<|zI<|ze<|zc zcq ?_;refine ⟨h51, _, rfl, st53.done, ?_⟩;refine zy ?_;simp_all [zaj]
  refine zQ 4 X<|zT (v := (.bool _)) X X X<|zaa X X<|zQ 3 X<|zT (v := (.bool _)) X X X<|zaa X X<|zQ 3 X<|zT (v := (.bool _)) X X X<|zH X X<|Y<|zw<|zI<|ze<|zc zcq ?_;refine ⟨h51, _, rfl, st53.done, ?_⟩;refine zy ?_;simp_all [zaj]
 refine zf<|zdk X X X<|zH X X<|Y ?_;refine zD rfl (fun c64 => ?_) (fun c64 => ?_)
 ·refine zf<|U X zp X zak X X<|M (j := 2) st46.sub (hc11.up l47) X X X zaA X<|zk st46 X X X Tryz.call129 X (zeO st46.sub _ zbp)<|fun r65 w66 h67 le68 st69 q70=> ?_;subst q70;refine zaa X X ?_;refine zay (d := 46) rfl (fun g71 => ?_) (fun g71 => ?_)
  ·refine Z X X X<|zaa X X<|zX (v := (.bool _)) X X X<|zaa X X ?_;refine zay (d := 49) rfl (fun g72 => ?_) (fun g72 => ?_)
   ·refine Z X X X<|U X zp X zai X X<|Z X X X<|zal (j := 6) st69.sub (hc11.up (l47.t le68)) (us := [zP (d.to.stem), .int .u8 (d.to.mark)]) X X zbQ zai X X X<|Z X X X<|zk st69 X X X Tryz.call130 X (zeN st69.sub (hd := d.to) zbp zes)<|fun r73 w74 h75 le76 st77 q78=> ?_;subst q78;refine zX (v := (.bool _)) X X X<|zaa X X ?_;refine zay (d := 54) rfl (fun g79 => ?_) (fun g79 => ?_)
    ·refine Z X X X<|U X zp X zl X X<|Z X X X<|M (j := 8) st77.sub (hc11.up ((l47.t le68).t le76)) X X X zB X<|Z X X X<|zdk X X X<|zX (v := (.bool _)) X X X<|zH X X<|Y<|zw<|zI<|ze<|zc zcq ?_;refine ⟨h75, _, rfl, st77.done, ?_⟩;refine zy ?_;simp_all [zaj]
    refine zQ 3 X<|zT (v := (.bool _)) X X X<|zH X X<|Y<|zw<|zI<|ze<|zc zcq ?_;refine ⟨h75, _, rfl, st77.done, ?_⟩;refine zy ?_;simp_all [zaj]
   refine zQ 3 X<|zT (v := (.bool _)) X X X<|zaa X X<|zQ 3 X<|zT (v := (.bool _)) X X X<|zH X X<|Y<|zw<|zI<|ze<|zc zcq ?_;refine ⟨h67, _, rfl, st69.done, ?_⟩;refine zy ?_;simp_all [zaj]
  refine zQ 1 X<|zT (v := (.bool _)) X X X<|zaa X X<|zQ 3 X<|zT (v := (.bool _)) X X X<|zaa X X<|zQ 3 X<|zT (v := (.bool _)) X X X<|zH X X<|Y<|zw<|zI<|ze<|zc zcq ?_;refine ⟨h67, _, rfl, st69.done, ?_⟩;refine zy ?_;simp_all [zaj]
 refine zf<|zdk X X X<|zH X X<|Y ?_;refine zD rfl (fun c80 => ?_) (fun c80 => ?_)
 ·refine zf<|U X zp X zak X X<|M (j := 2) st46.sub (hc11.up l47) X X X zaA X<|v_seql X X X<|zaa X X ?_;refine zae (d := 64) rfl (fun g81 => ?_) (fun g81 => ?_)
  ·refine Z X X X<|zaa X X<|zX (v := (.bool _)) X X X<|zaa X X ?_;refine zay (d := 67) rfl (fun g82 => ?_) (fun g82 => ?_)
   ·refine Z X X X<|U X zp X zai X X<|Z X X X<|zal (j := 6) st46.sub (hc11.up l47) (us := [zP (d.to.stem), .int .u8 (d.to.mark)]) X X zbQ zai X X X<|Z X X X<|zk st46 X X X Tryz.call130 X (zeN st46.sub (hd := d.to) zbp zes)<|fun r83 w84 h85 le86 st87 q88=> ?_;subst q88;refine zX (v := (.bool _)) X X X<|zaa X X ?_;refine zay (d := 72) rfl (fun g89 => ?_) (fun g89 => ?_)
    ·refine Z X X X<|U X zp X zl X X<|Z X X X<|M (j := 8) st87.sub (hc11.up (l47.t le86)) X X X zB X<|Z X X X<|zdk X X X<|zX (v := (.bool _)) X X X<|zH X X<|Y<|zw<|zI<|ze<|zc zcq ?_;refine ⟨h85, _, rfl, st87.done, ?_⟩;refine zy ?_;simp_all [zaj]
    refine zQ 3 X<|zT (v := (.bool _)) X X X<|zH X X<|Y<|zw<|zI<|ze<|zc zcq ?_;refine ⟨h85, _, rfl, st87.done, ?_⟩;refine zy ?_;simp_all [zaj]
   refine zQ 3 X<|zT (v := (.bool _)) X X X<|zaa X X<|zQ 3 X<|zT (v := (.bool _)) X X X<|zH X X<|Y<|zw<|zI<|ze<|zc zcq ?_;refine ⟨h42, _, rfl, st46.done, ?_⟩;refine zy ?_;simp_all [zaj]
  refine zQ 1 X<|zT (v := (.bool _)) X X X<|zaa X X<|zQ 3 X<|zT (v := (.bool _)) X X X<|zaa X X<|zQ 3 X<|zT (v := (.bool _)) X X X<|zH X X<|Y<|zw<|zI<|ze<|zc zcq ?_;refine ⟨h42, _, rfl, st46.done, ?_⟩;refine zy ?_;simp_all [zaj]
 refine zf<|zdk X X X<|zH X X<|Y ?_;refine zD rfl (fun c90 => ?_) (fun c90 => ?_)
 ·refine zf<|U X zp X zak X X<|M (j := 2) st46.sub (hc11.up l47) X X X zaA X<|v_seql X X X<|zaa X X ?_;refine zae (d := 82) rfl (fun g91 => ?_) (fun g91 => ?_)
  ·refine Z X X X<|U X zp X zY X X<|Z X X X<|zal (j := 3) st46.sub (hc11.up l47) (us := [.int .i64 (d.at_.chapter), .int .i64 (d.at_.line), .int .i64 (d.at_.word)]) X X zaR zY X X X<|Z X X X<|zA st46.sub (hc38.up le43) X zaR zY X X<|Z X X X<|zj X X (zhq X X Tryz.eqGuardType49 (Tryz.eq_Place d.at_ zdE))<|zX (v := (.bool _)) X X X<|zaa X X ?_;refine zae (d := 88) rfl (fun g92 => ?_) (fun g92 => ?_)
   ·refine Z X X X<|U X zp X zai X X<|Z X X X<|zal (j := 6) st46.sub (hc11.up l47) (us := [zP (d.to.stem), .int .u8 (d.to.mark)]) X X zbQ zai X X X<|Z X X X<|zA st46.sub hc45 X zbQ zai X X<|Z X X X<|zj X X (zhq X X Tryz.eqGuardType51 (Tryz.eq_Head d.to zdw))<|zX (v := (.bool _)) X X X<|zaa X X ?_;refine zae (d := 94) rfl (fun g93 => ?_) (fun g93 => ?_)
    ·refine Z X X X<|U X zp X zl X X<|Z X X X<|M (j := 8) st46.sub (hc11.up l47) X X X zB X<|Z X X X<|U X zp X zl X X<|Z X X X<|M (j := 0) st46.sub (hc11.up l47) X X X zB X<|Z X X X<|ziO X X zaN X<|Z X X X<|zk st46 X X X Tryz.call127 X (zdG st46.sub _ _ _)<|fun r94 w95 h96 le97 st98 q99=> ?_;subst q99;refine zX (v := (.bool _)) X X X<|zH X X<|Y<|zw<|zI<|ze<|zc zcq ?_;refine ⟨h96, _, rfl, st98.done, ?_⟩;refine zy ?_;simp_all [zaj]
    refine zQ 6 X<|zT (v := (.bool _)) X X X<|zH X X<|Y<|zw<|zI<|ze<|zc zcq ?_;refine ⟨h42, _, rfl, st46.done, ?_⟩;refine zy ?_;simp_all [zaj]
   refine zQ 4 X<|zT (v := (.bool _)) X X X<|zaa X X<|zQ 6 X<|zT (v := (.bool _)) X X X<|zH X X<|Y<|zw<|zI<|ze<|zc zcq ?_;refine ⟨h42, _, rfl, st46.done, ?_⟩;refine zy ?_;simp_all [zaj]
  refine zQ 4 X<|zT (v := (.bool _)) X X X<|zaa X X<|zQ 4 X<|zT (v := (.bool _)) X X X<|zaa X X<|zQ 6 X<|zT (v := (.bool _)) X X X<|zH X X<|Y<|zw<|zI<|ze<|zc zcq ?_;refine ⟨h42, _, rfl, st46.done, ?_⟩;refine zy ?_;simp_all [zaj]
 refine zx<|zL<|E<|zf<|zH X X<|Y<|zw<|zc zcq ?_;refine ⟨h42, _, rfl, st46.done, ?_⟩;refine zy ?_;simp_all [zaj]
theorem c_postilref04_Lexicon {h : Heap} {w : World} (hs : Sub h w) {t : Text} {t_v0 : Value} (t_f0 : Sl LChapter h t_v0 t.chapters) {x : Lexicon} {x_v0 : Value} (x_f0 : Sl LRule h x_v0 x.rules) {x_v1 : Value} (x_f1 : Sl LDecision h x_v1 x.decisions) : Calls Tryz.prog 38 #[.agg #[t_v0], .agg #[x_v0, x_v1]] w (Rets h w (fun _ _ res_ => res_ = .bool (zcE t x))) := by
 refine zN (n := 65) Tryz.func38 X X X<|have st0:=zbl hs;have t_f0_b:=t_f0.le;have x_f0_b:=x_f0.le;have x_f1_b:=x_f1.le;zf<|zJ st0 (cs := [t_v0]) X X X<|fun b1 w2 h3 le4 hc5 st6=>zJ st6 (cs := [x_v0, x_v1]) X X X<|fun b7 w8 h9 le10 hc11 st12=>zH X X<|Y<|zm<|zf<|U X zaz X zdj X X<|M (j := 0) st12.sub hc11 X X X zea X<|have l13:=le4.t le10;zaK (x_f0.up l13) X zbD X<|zdy X X X<|zaa X X ?_;refine zae (d := 12) rfl (fun g14 => ?_) (fun g14 => ?_)
 ·refine zQ 4 X<|zX (v := (.bool _)) X X X<|Y ?_;refine zag rfl (fun c15 => ?_) (fun c15 => ?_)
  ·refine zf<|zH X X<|Y<|zw<|ze<|zc zgA ?_;refine ⟨h9, _, rfl, st12.done, ?_⟩;refine zy ?_;have q := g14;simp [zcE]
   intros
   omega
  cases c15
 refine Z X X X<|U X zaz X zcv X X<|Z X X X<|M (j := 1) st12.sub hc11 X X X zdf X<|Z X X X<|zaK (x_f1.up l13) X zaU X<|Z X X X<|zdy X X X<|zT (v := (.bool _)) X X X<|Y ?_;refine zD rfl (fun c16 => ?_) (fun c16 => ?_)
 ·refine zf<|zH X X<|Y<|zw<|ze<|zc zgA ?_;refine ⟨h9, _, rfl, st12.done, ?_⟩;refine zy ?_;have q := c16;simp [zcE]
  intros
  omega
 refine zx<|E<|zm<|zf<|zt X X<|Y<|zF ?_;refine zau ([4, 5] ++ zbY 18 14) (G := Nat × Heap) (fun ⟨i, h17⟩ => [(5, .int .i64 (i : Int))]) (fun ⟨i, h17⟩ w' => Le h9 h17 ∧ St h w h17 w' [] ∧ (i ≤ x.rules.length) ∧ ((x.rules.take i).all zhx = true)) (fun ⟨i, h17⟩ => x.rules.length - i) ⟨0, h9⟩ ⟨rfl, trivial⟩ ⟨Le.refl _, st12, zaX, zaX⟩ ?_;rintro ⟨i, h17⟩ _ w20 ⟨le18, st19, hi, hR⟩;refine zm<|zf<|zi X X<|U X zaz X zdj X X<|M (j := 0) st19.sub (hc11.up le18) X X X zea X<|have l21:=l13.t le18;zaK (x_f0.up l21) X zbD X<|zaW X X X<|Y ?_;refine zD rfl (fun c22 => ?_) (fun c22 => ?_)
 ·refine zx<|E<|zm<|zF<|zf<|U X zaz X zdj X X<|M (j := 0) st19.sub (hc11.up le18) X X X zea X<|zi X X ?_;obtain ⟨r, hr⟩ : ∃ y_, (x.rules)[i]? = some y_ := zbu zr;obtain ⟨b23, o24, _, he26, hc25, hr_r⟩ := Sl.elem (x_f0.up l21) hr;obtain ⟨rfl, ls27, ls28⟩ := hr_r;simp only [big] at ls27;simp only [big] at ls28;refine zS he26 X X (hk := X) (hu := zbD) (hz := zdu) X<|zA st19.sub hc25 X Tryz.isAgg122 zdu X X<|zk st19 X X X Tryz.call87 X (c_postilref04_Rule st19.sub (r := r) zbp zbp)<|fun r29 w30 h31 le32 st33 q34=> ?_;subst q34;refine zby X X<|Y ?_;refine zag rfl (fun c35 => ?_) (fun c35 => ?_)
  ·refine zf<|zH X X<|Y<|zw<|zI<|ze<|ze<|zI<|ze<|zc zgA ?_;refine ⟨h31, _, rfl, st33.done, ?_⟩;refine zy ?_;have q := zcM (p := zhx) hr (by simpa using c35);simp [zcE, q]
  refine zx<|zL<|E<|zn<|zi X X<|zaF X X zaN X<|zt X X<|Y ?_;refine ⟨⟨i + 1, h31⟩, ⟨rfl, trivial⟩, ?_, ⟨(le18.t le32), st33, ?_, ?_⟩, ?_⟩
  ·exact zar
  ·first | omega | (simp; omega)
  ·exact zcw hR hr (by simpa using c35)
  show x.rules.length - ((i + 1)) < x.rules.length - i;omega
 refine zaI<|zo<|zo<|zam<|E<|zm<|zf<|zt X X<|Y<|zF ?_;refine zau ([4, 6, 7] ++ zbY 32 33) (G := Nat × Heap) (fun ⟨i, h36⟩ => [(6, .int .i64 (i : Int))]) (fun ⟨i, h36⟩ w' => Le h17 h36 ∧ St h w h36 w' [] ∧ (i ≤ x.decisions.length) ∧ ((x.decisions.take i).all (zaj t) = true) ∧ (((x.decisions.take i).map (·.number)).Nodup)) (fun ⟨i, h36⟩ => x.decisions.length - i) ⟨0, h17⟩ ⟨rfl, trivial⟩ ⟨Le.refl _, st19, zaX, zaX, zaX⟩ ?_;rintro ⟨i, h36⟩ _ w39 ⟨le37, st38, hi, hD, hN⟩;refine zm<|zf<|zi X X<|U X zaz X zcv X X<|M (j := 1) st38.sub (hc11.up (le18.t le37)) X X X zdf X<|have l40:=l21.t le37;zaK (x_f1.up l40) X zaU X<|zaW X X X<|Y ?_;refine zD rfl (fun c41 => ?_) (fun c41 => ?_)
 ·refine zx<|E<|zm<|zF<|zm<|zm<|zcb Tryz.mixed za (Cls h36 _) (Cls.drew st38)<|zG X X (fun _ hC => (zaG hC.sub (hc5.up ((le10.t le18).t le37)) X zbj zav X))<|zZ X zaz X zcv X X<|zG X X (fun _ hC => (zh (j := 1) hC.sub (hc11.up (le18.t le37)) X X X zdf))<|zdo X X ?_;obtain ⟨d, hd⟩ : ∃ y_, (x.decisions)[i]? = some y_ := zbu zr;obtain ⟨b42, o43, _, he45, hc44, hr_d⟩ := Sl.elem (x_f1.up l40) hd;obtain ⟨rfl, lu46, ls47, ls48, lu49⟩ := hr_d;simp only [big] at ls47;simp only [big] at ls48;refine zcd he45 X X (hk := X) (hu := zaU) (hz := zab) X<|zG X X (fun _ hC => (zaG hC.sub hc44 X zaY zab X))<|zcK X X (fun _ => zaZ X Tryz.call88 X) (fun _ hC => Rets.quiet hC (zjw hC.sub (t := t) (t_f0.up l40) (d := d) zes zbp zbp zes))<|u_not X X<|zbE ?_;rintro w50 ⟨h51, s52⟩;have st53 := st38.call0 s52;refine E ?_;refine zag rfl (fun c54 => ?_) (fun c54 => ?_)
  ·refine zf<|zH X X<|Y<|zw<|ze<|zI<|ze<|ze<|zI<|ze<|zc zgA ?_;refine ⟨h51, _, rfl, st53.done, ?_⟩;refine zy ?_;have q := zcM (p := zaj t) hd (by simpa using c54);simp [zcE, q]
  refine zx<|E<|zf<|zt X X<|Y<|zF ?_;refine zau ([4, 7] ++ zbY 47 18) (G := Nat × Heap) (fun ⟨k, h55⟩ => [(7, .int .i64 (k : Int))]) (fun ⟨k, h55⟩ w' => Le h51 h55 ∧ St h w h55 w' [] ∧ (k ≤ i) ∧ (∀ j c2, j < k → x.decisions[j]? = some c2 → c2.number ≠ d.number)) (fun ⟨k, h55⟩ => i - k) ⟨0, h51⟩ ⟨rfl, trivial⟩ ⟨Le.refl _, st53, zaX, (by intro j _ hj; omega)⟩ ?_;rintro ⟨k, h55⟩ _ w58 ⟨le56, st57, hk, hq⟩;refine zm<|zf<|zi X X<|zi X X<|zaW X X X<|Y ?_;refine zD rfl (fun c59 => ?_) (fun c59 => ?_)
  ·refine zx<|E<|zm<|zF<|zm<|zcb Tryz.mixed za (Cls h55 _) (Cls.drew st57)<|zZ X zaz X zcv X X<|have l60:=((le18.t le37).trans s52.le).t le56;zG X X (fun _ hC => (zh (j := 1) hC.sub (hc11.up l60) X X X zdf))<|zdo X X ?_;obtain ⟨e, he⟩ : ∃ y_, (x.decisions)[k]? = some y_ := zbu zr;have l65 := (l40.trans s52.le).t le56;obtain ⟨b61, o62, _, he64, hc63, hr_e⟩ := Sl.elem (x_f1.up l65) he;obtain ⟨rfl, lu66, ls67, ls68, lu69⟩ := hr_e;simp only [big] at ls67;simp only [big] at ls68;refine zcd he64 X X (hk := X) (hu := zaU) (hz := zab) X<|zZ X zp X zl X X<|zG X X (fun _ hC => (zh (j := 0) hC.sub hc63 X X X zB))<|zZ X zaz X zcv X X<|zG X X (fun _ hC => (zh (j := 1) hC.sub (hc11.up l60) X X X zdf))<|zdo X X<|zcd he45 X X (hk := X) (hu := zaU) (hz := zab) X<|zZ X zp X zl X X<|zG X X (fun _ hC => (zh (j := 0) hC.sub (hc44.up (s52.le.t le56)) X X X zB))<|u_eql X X X<|zbE ?_;rintro w70 ⟨h71, s72⟩;have st73 := st57.call0 s72;refine E ?_;refine zD rfl (fun c74 => ?_) (fun c74 => ?_)
   ·refine zf<|zH X X<|Y<|zw<|zI<|ze<|ze<|zI<|zI<|ze<|ze<|zI<|ze<|zc zgA ?_;refine ⟨h71, _, rfl, st73.done, ?_⟩;refine zy ?_;have q := ziU (f := (·.number)) he hd zr (by assumption);simp [zcE, q]
   refine zx<|zL<|E<|zn<|zi X X<|zaF X X zaN X<|zt X X<|Y ?_;refine ⟨⟨k + 1, h71⟩, ⟨rfl, trivial⟩, ?_, ⟨(le56.trans s72.le), st73, ?_, ?_⟩, ?_⟩
   ·exact zar
   ·first | omega | (simp; omega)
   ·intro j c2 h1 h2
    rcases Nat.lt_or_ge j k with h3 | h3
    ·exact hq j c2 h3 h2
    ·obtain rfl : j = k := by omega
     rw [h2] at he; cases he; assumption
   show i - ((k + 1)) < i - k;omega
  refine zaI<|zo<|zo<|zam<|zL<|E<|zn<|zi X X<|zaF X X zaN X<|zt X X<|Y ?_;have HD : zaj t d = true := by simpa using c54
  refine ⟨⟨i + 1, h55⟩, ⟨rfl, trivial⟩, ?_, ⟨((le37.trans s52.le).t le56), st57, ?_, ?_, ?_⟩, ?_⟩
  ·exact zar
  ·first | omega | (simp; omega)
  ·exact zcw hD hd HD
  ·exact nodup_take_succ hN hd zr (fun j c2 h1 h2 => hq j c2 zr h2)
  show x.decisions.length - ((i + 1)) < x.decisions.length - i;omega
 refine zaI<|zo<|zo<|zam<|E<|zf<|zH X X<|Y<|zw<|zc zgA ?_;refine ⟨h36, _, rfl, st38.done, ?_⟩;refine zy ?_;have q1 := zdc hR zr;have q2 := zdc hD zr;have q3 : x.decisions.take i = x.decisions := List.take_of_length_le zr;rw [q3] at hN;simp [zcE, q1, q2, hN];omega
theorem c_postilref04_Check {h : Heap} {w : World} (hs : Sub h w) {t : Text} {t_v0 : Value} (t_f0 : Sl LChapter h t_v0 t.chapters) {x : Lexicon} {x_v0 : Value} (x_f0 : Sl LRule h x_v0 x.rules) {x_v1 : Value} (x_f1 : Sl LDecision h x_v1 x.decisions) : Calls Tryz.prog 119 #[.agg #[t_v0], .agg #[x_v0, x_v1]] w (Rets h w (fun _ _ res_ => res_ = .int .i64 (zaQ t x))) := by
 refine zN (n := 15) Tryz.func119 X X X<|have st0:=zbl hs;have t_f0_b:=t_f0.le;have x_f0_b:=x_f0.le;have x_f1_b:=x_f1.le;zf<|zJ st0 (cs := [t_v0]) X X X<|fun b1 w2 h3 le4 hc5 st6=>zJ st6 (cs := [x_v0, x_v1]) X X X<|fun b7 w8 h9 le10 hc11 st12=>zt X X<|Y<|zm<|zf<|zA st12.sub (hc5.up le10) X zbj zav X X<|have l13:=le4.t le10;zk st12 X X X Tryz.call163 X (c_postilref01_Check st12.sub (t := t) (t_f0.up l13))<|fun r14 w15 h16 le17 st18 q19=> ?_;subst q19;refine zt X X<|Y<|zf<|zi X X<|zcL X X X<|Y ?_;refine zD rfl (fun c20 => ?_) (fun c20 => ?_)
 ·refine zf<|zi X X<|zt X X<|Y<|zw<|ze<|zc Tryz.results119 ?_;refine ⟨h16, _, rfl, st18.done, ?_⟩;refine zad ?_;simp_all [zaQ]
 refine zx<|E<|zm<|zf<|zA st18.sub (hc5.up (le10.t le17)) X zbj zav X X<|zA st18.sub (hc11.up le17) X zbZ zaJ X X<|have l21:=l13.t le17;zk st18 X X X Tryz.call38 X (c_postilref04_Lexicon st18.sub (t := t) (t_f0.up l21) (x := x) (x_f0.up l21) (x_f1.up l21))<|fun r22 w23 h24 le25 st26 q27=> ?_;subst q27;refine zby X X<|Y ?_;refine zag rfl (fun c28 => ?_) (fun c28 => ?_)
 ·refine zf<|zt X X<|Y<|zw<|ze<|zc Tryz.results119 ?_;refine ⟨h24, _, rfl, st26.done, ?_⟩;refine zad ?_;simp_all [zaQ]
 refine zx<|E<|zf<|zt X X<|Y<|zw<|zc Tryz.results119 ?_;refine ⟨h24, _, rfl, st26.done, ?_⟩;refine zad ?_;simp_all [zaQ]
end Go.Pk

namespace Go.Pk
open Go Go.RowKit Go.Proofs
end Go.Pk

namespace Go.Pk
open Go Go.RowKit Go.Proofs
theorem zhl {xs : List Int} {v : Value} {g : FuncId} {caps : List Value} (S : Nat → Heap → World → Prop) (p : Nat → Bool)
  (hS : ∀ k h w, S k h w → Sub h w ∧ Sl LInt h v xs)
  (hf : ∀ k x h w vs, S k h w → xs[k]? = some x → LInt.R h vs x → ∀ u, vs = [u] → Calls Tryz.prog g (u :: caps).toArray w (fun e w' => ∃ h', e = .returned (.bool (p k)) ∧ S (k + 1) h' w'))
  (hg : ∀ a w, (callFunc g a).run Tryz.prog w = .ok (.enter g a) w) {h : Heap} {w : World} (h0 : S 0 h w) :
  Calls Tryz.prog 136 #[v, .func (.func g) #[] caps.toArray] w (fun e w' => ∃ h' k, e = .returned (.int .i64 (if k < xs.length then (k : Int) else -1)) ∧ k ≤ xs.length ∧ (∀ j, j < k → p j = false) ∧ (k < xs.length → p k = true) ∧ S (if k < xs.length then k + 1 else k) h' w') := by
 refine zN (n := 19) Tryz.func136 X X X<|have hb:=(hS 0 h w h0).2.le;zf<|zt X X<|Y<|zm<|zf<|zR (v := v) X X<|zaK (hS 0 h w h0).2 X zg X<|zi X X<|Y<|zF ?_;refine zau ([4, 5] ++ zbY 8 11) (G := Nat × Heap) (fun ⟨k, _⟩ => [(8, .int .i64 (k : Int))]) (fun ⟨k, h'⟩ w' => S k h' w' ∧ k ≤ xs.length ∧ ∀ j, j < k → p j = false) (fun ⟨k, _⟩ => xs.length - k) ⟨0, h⟩ ⟨rfl, trivial⟩ ⟨h0, by omega, by intros; omega⟩ ?_;rintro ⟨k, h1⟩ _ w1 ⟨hS1, hk, hp⟩;obtain ⟨hsub, hsl⟩ := hS k h1 w1 hS1;refine zf<|zaW X X X<|Y<|zm ?_;refine zag rfl (fun c1 => ?_) (fun c1 => ?_)
 ·replace c1 := zhw c1;refine zx<|E<|zm<|zF<|zf<|zi X X<|zt X X<|Y<|zf<|zhv X X<|zR (v := v) X X<|zi X X ?_;have hy : ∃ y, xs[k]? = some y := ⟨_, List.getElem?_eq_getElem zr⟩;obtain ⟨y, hy⟩ := hy;obtain ⟨b, o, vs, he, hc, hr⟩ := Sl.elem hsl hy;refine zS he X X (hk := X) (hu := zg) (hz := zl) X ?_;obtain ⟨u, rfl⟩ : ∃ u, vs = [u] := by
   have q := LInt.len hr
   match vs, q with
   | [u], _ => exact ⟨u, rfl⟩
  refine M (j := 0) hsub hc X X X zB X ?_;refine zaE rfl rfl (zce (fs := []) (cs := caps) rfl rfl hg rfl) ((hf k y h1 w1 _ hS1 hy hr _ rfl).mono ?_);rintro e w2 ⟨h2, rfl, hS2⟩;refine ⟨_, rfl, ?_⟩;refine Y ?_;refine zag rfl (fun c2 => ?_) (fun c2 => ?_)
  ·refine zm ?_;refine zn<|zi X X<|zt X X<|Y<|zw ?_
   repeat (first | refine zI ?_ | refine ze ?_)
   refine zc Tryz.results136 ?_;have hlt : k < xs.length := by omega
   exact ⟨h2, k, by rw [if_pos hlt]; rfl, hk, hp, fun _ => c2, by rw [if_pos hlt]; exact hS2⟩
  ·refine zx ?_;refine zL<|E<|zn ?_;refine zj rfl rfl (ziT rfl rfl zr) ?_;refine zi X X<|Y ?_;refine ⟨⟨k + 1, h2⟩, ⟨rfl, trivial⟩, ?_, ⟨hS2, by omega, ?_⟩, ?_⟩
   ·exact zar
   ·intro j hj
    rcases Nat.lt_or_ge j k with h3 | h3
    ·exact hp j h3
    ·obtain rfl : j = k := by omega
     exact c2
   ·show xs.length - (k + 1) < xs.length - k;omega
 ·replace c1 := zjj c1;refine zaI<|zo<|zo<|zam<|E<|zf<|zt X X<|Y<|zw<|zc Tryz.results136 ?_;have hlt : ¬ k < xs.length := by omega
  exact ⟨h1, k, by rw [if_neg hlt]; rfl, hk, hp, fun q => absurd q hlt, by rw [if_neg hlt]; exact hS1⟩

theorem zgE {xs : List Int} {v : Value} {g : FuncId} {caps : List Value} (S : Nat → Heap → World → Prop) (p : Nat → Bool)
  (hS : ∀ k h w, S k h w → Sub h w ∧ Sl LInt h v xs)
  (hf : ∀ k x h w vs, S k h w → xs[k]? = some x → LInt.R h vs x → ∀ u, vs = [u] → Calls Tryz.prog g (u :: caps).toArray w (fun e w' => ∃ h', e = .returned (.bool (p k)) ∧ S (k + 1) h' w'))
  (hg : ∀ a w, (callFunc g a).run Tryz.prog w = .ok (.enter g a) w) {h : Heap} {w : World} (h0 : S 0 h w) :
  Calls Tryz.prog 97 #[v, .func (.func g) #[] caps.toArray] w (fun e w' => ∃ h' k, e = .returned (.bool (decide (k < xs.length))) ∧ k ≤ xs.length ∧ (∀ j, j < k → p j = false) ∧ (k < xs.length → p k = true) ∧ S (if k < xs.length then k + 1 else k) h' w') := by
 refine zN (n := 9) Tryz.func97 X X X<|zf<|zH X X<|Y<|zf<|zR (v := v) X X<|zhv X X ?_;refine zaE rfl rfl (zaZ rfl Tryz.call136 rfl) ((zhl S p hS hf hg h0).mono ?_);rintro e w2 ⟨h2, k, rfl, q1, q2, q3, q4⟩;refine ⟨_, rfl, ?_⟩;refine zgY X X X<|zH X X<|Y<|zw<|zc Tryz.results97 ?_;refine ⟨h2, k, congrArg Ending.returned (zy ?_), q1, q2, q3, q4⟩
 by_cases hlt : k < xs.length
 ·simp [hlt]
 ·simp [hlt]
theorem zdB {xs : List Int} {v : Value} {g : FuncId} {caps : List Value} {h : Heap} {w : World} (hs : Sub h w) (hx : Sl LInt h v xs) (q : Int → Bool)
  (hg : ∀ a w, (callFunc g a).run Tryz.prog w = .ok (.enter g a) w)
  (hf : ∀ x h' w' vs, Le h h' → Sub h' w' → x ∈ xs → LInt.R h' vs x → ∀ u, vs = [u] → Calls Tryz.prog g (u :: caps).toArray w' (Rets h' w' fun _ _ r => r = .bool (q x))) :
  Calls Tryz.prog 97 #[v, .func (.func g) #[] caps.toArray] w (Rets h w fun _ _ r => r = .bool (xs.any q)) := by
 refine (zgE (fun k h' w' => St h w h' w' [] ∧ k ≤ xs.length) (fun k => ((xs[k]?).map q).getD false) (fun k h' w' hk => ⟨hk.1.sub, hx.up hk.1.le⟩) ?_ hg ⟨St.start hs, Nat.zero_le _⟩).mono ?_
 ·rintro k x h' w' vs ⟨st, _⟩ hk hr u hu;refine (hf x h' w' vs st.le st.sub (List.mem_of_getElem? hk) hr u hu).mono ?_;rintro e w'' ⟨h'', r, rfl, s, rfl⟩;obtain ⟨hlt, _⟩ := List.getElem?_eq_some_iff.1 hk;exact ⟨h'', by simp [hk], st.call0 s, hlt⟩
 ·rintro e w' ⟨h', k, rfl, q1, q2, q3, q4⟩;refine ⟨h', _, rfl, q4.1, zy ?_⟩
  by_cases hlt : k < xs.length
  ·have h3 := q3 hlt;rw [List.getElem?_eq_getElem hlt] at h3;simp only [Option.map_some, Option.getD_some] at h3;have : xs.any q = true := List.any_eq_true.2 ⟨_, List.getElem_mem hlt, h3⟩;simp [hlt, this]
  ·have : xs.any q = false := by
    rw [List.any_eq_false];intro x hx';obtain ⟨j, hj⟩ := List.mem_iff_getElem?.1 hx';obtain ⟨h5, _⟩ := List.getElem?_eq_some_iff.1 hj;have := q2 j zr;simpa [hj] using this
   simp [hlt, this]

theorem zgS {xs : List Int} {v : Value} {g : FuncId} {caps : List Value} (S : Nat → Heap → World → Prop) (p : Nat → Bool)
  (hS : ∀ k h w, S k h w → Sub h w ∧ Sl LU8 h v xs)
  (hf : ∀ k x h w vs, S k h w → xs[k]? = some x → LU8.R h vs x → ∀ u, vs = [u] → Calls Tryz.prog g (u :: caps).toArray w (fun e w' => ∃ h', e = .returned (.bool (p k)) ∧ S (k + 1) h' w'))
  (hg : ∀ a w, (callFunc g a).run Tryz.prog w = .ok (.enter g a) w) {h : Heap} {w : World} (h0 : S 0 h w) :
  Calls Tryz.prog 160 #[v, .func (.func g) #[] caps.toArray] w (fun e w' => ∃ h' k, e = .returned (.int .i64 (if k < xs.length then (k : Int) else -1)) ∧ k ≤ xs.length ∧ (∀ j, j < k → p j = false) ∧ (k < xs.length → p k = true) ∧ S (if k < xs.length then k + 1 else k) h' w') := by
 refine zN (n := 19) Tryz.func160 X X X<|have hb:=(hS 0 h w h0).2.le;zf<|zt X X<|Y<|zm<|zf<|zR (v := v) X X<|zaK (hS 0 h w h0).2 X Tryz.underlying193 X<|zi X X<|Y<|zF ?_;refine zau ([4, 5] ++ zbY 8 11) (G := Nat × Heap) (fun ⟨k, _⟩ => [(8, .int .i64 (k : Int))]) (fun ⟨k, h'⟩ w' => S k h' w' ∧ k ≤ xs.length ∧ ∀ j, j < k → p j = false) (fun ⟨k, _⟩ => xs.length - k) ⟨0, h⟩ ⟨rfl, trivial⟩ ⟨h0, by omega, by intros; omega⟩ ?_;rintro ⟨k, h1⟩ _ w1 ⟨hS1, hk, hp⟩;obtain ⟨hsub, hsl⟩ := hS k h1 w1 hS1;refine zf<|zaW X X X<|Y<|zm ?_;refine zag rfl (fun c1 => ?_) (fun c1 => ?_)
 ·replace c1 := zhw c1;refine zx<|E<|zm<|zF<|zf<|zi X X<|zt X X<|Y<|zf<|zhv X X<|zR (v := v) X X<|zi X X ?_;have hy : ∃ y, xs[k]? = some y := ⟨_, List.getElem?_eq_getElem zr⟩;obtain ⟨y, hy⟩ := hy;obtain ⟨b, o, vs, he, hc, hr⟩ := Sl.elem hsl hy;refine zS he X X (hk := X) (hu := Tryz.underlying193) (hz := zbs) X ?_;obtain ⟨u, rfl⟩ : ∃ u, vs = [u] := by
   have q := LU8.len hr
   match vs, q with
   | [u], _ => exact ⟨u, rfl⟩
  refine M (j := 0) hsub hc X X X zbW X ?_;refine zaE rfl rfl (zce (fs := []) (cs := caps) rfl rfl hg rfl) ((hf k y h1 w1 _ hS1 hy hr _ rfl).mono ?_);rintro e w2 ⟨h2, rfl, hS2⟩;refine ⟨_, rfl, ?_⟩;refine Y ?_;refine zag rfl (fun c2 => ?_) (fun c2 => ?_)
  ·refine zm ?_;refine zn<|zi X X<|zt X X<|Y<|zw ?_
   repeat (first | refine zI ?_ | refine ze ?_)
   refine zc Tryz.results160 ?_;have hlt : k < xs.length := by omega
   exact ⟨h2, k, by rw [if_pos hlt]; rfl, hk, hp, fun _ => c2, by rw [if_pos hlt]; exact hS2⟩
  ·refine zx ?_;refine zL<|E<|zn ?_;refine zj rfl rfl (ziT rfl rfl zr) ?_;refine zi X X<|Y ?_;refine ⟨⟨k + 1, h2⟩, ⟨rfl, trivial⟩, ?_, ⟨hS2, by omega, ?_⟩, ?_⟩
   ·exact zar
   ·intro j hj
    rcases Nat.lt_or_ge j k with h3 | h3
    ·exact hp j h3
    ·obtain rfl : j = k := by omega
     exact c2
   ·show xs.length - (k + 1) < xs.length - k;omega
 ·replace c1 := zjj c1;refine zaI<|zo<|zo<|zam<|E<|zf<|zt X X<|Y<|zw<|zc Tryz.results160 ?_;have hlt : ¬ k < xs.length := by omega
  exact ⟨h1, k, by rw [if_neg hlt]; rfl, hk, hp, fun q => absurd q hlt, by rw [if_neg hlt]; exact hS1⟩

theorem zgc {xs : List Int} {v : Value} {g : FuncId} {caps : List Value} (S : Nat → Heap → World → Prop) (p : Nat → Bool)
  (hS : ∀ k h w, S k h w → Sub h w ∧ Sl LU8 h v xs)
  (hf : ∀ k x h w vs, S k h w → xs[k]? = some x → LU8.R h vs x → ∀ u, vs = [u] → Calls Tryz.prog g (u :: caps).toArray w (fun e w' => ∃ h', e = .returned (.bool (p k)) ∧ S (k + 1) h' w'))
  (hg : ∀ a w, (callFunc g a).run Tryz.prog w = .ok (.enter g a) w) {h : Heap} {w : World} (h0 : S 0 h w) :
  Calls Tryz.prog 114 #[v, .func (.func g) #[] caps.toArray] w (fun e w' => ∃ h' k, e = .returned (.bool (decide (k < xs.length))) ∧ k ≤ xs.length ∧ (∀ j, j < k → p j = false) ∧ (k < xs.length → p k = true) ∧ S (if k < xs.length then k + 1 else k) h' w') := by
 refine zN (n := 9) Tryz.func114 X X X<|zf<|zH X X<|Y<|zf<|zR (v := v) X X<|zhv X X ?_;refine zaE rfl rfl (zaZ rfl Tryz.call160 rfl) ((zgS S p hS hf hg h0).mono ?_);rintro e w2 ⟨h2, k, rfl, q1, q2, q3, q4⟩;refine ⟨_, rfl, ?_⟩;refine zgY X X X<|zH X X<|Y<|zw<|zc Tryz.results114 ?_;refine ⟨h2, k, congrArg Ending.returned (zy ?_), q1, q2, q3, q4⟩
 by_cases hlt : k < xs.length
 ·simp [hlt]
 ·simp [hlt]
theorem zep {xs : List Int} {v : Value} {g : FuncId} {caps : List Value} {h : Heap} {w : World} (hs : Sub h w) (hx : Sl LU8 h v xs) (q : Int → Bool)
  (hg : ∀ a w, (callFunc g a).run Tryz.prog w = .ok (.enter g a) w)
  (hf : ∀ x h' w' vs, Le h h' → Sub h' w' → x ∈ xs → LU8.R h' vs x → ∀ u, vs = [u] → Calls Tryz.prog g (u :: caps).toArray w' (Rets h' w' fun _ _ r => r = .bool (q x))) :
  Calls Tryz.prog 114 #[v, .func (.func g) #[] caps.toArray] w (Rets h w fun _ _ r => r = .bool (xs.any q)) := by
 refine (zgc (fun k h' w' => St h w h' w' [] ∧ k ≤ xs.length) (fun k => ((xs[k]?).map q).getD false) (fun k h' w' hk => ⟨hk.1.sub, hx.up hk.1.le⟩) ?_ hg ⟨St.start hs, Nat.zero_le _⟩).mono ?_
 ·rintro k x h' w' vs ⟨st, _⟩ hk hr u hu;refine (hf x h' w' vs st.le st.sub (List.mem_of_getElem? hk) hr u hu).mono ?_;rintro e w'' ⟨h'', r, rfl, s, rfl⟩;obtain ⟨hlt, _⟩ := List.getElem?_eq_some_iff.1 hk;exact ⟨h'', by simp [hk], st.call0 s, hlt⟩
 ·rintro e w' ⟨h', k, rfl, q1, q2, q3, q4⟩;refine ⟨h', _, rfl, q4.1, zy ?_⟩
  by_cases hlt : k < xs.length
  ·have h3 := q3 hlt;rw [List.getElem?_eq_getElem hlt] at h3;simp only [Option.map_some, Option.getD_some] at h3;have : xs.any q = true := List.any_eq_true.2 ⟨_, List.getElem_mem hlt, h3⟩;simp [hlt, this]
  ·have : xs.any q = false := by
    rw [List.any_eq_false];intro x hx';obtain ⟨j, hj⟩ := List.mem_iff_getElem?.1 hx';obtain ⟨h5, _⟩ := List.getElem?_eq_some_iff.1 hj;have := q2 j zr;simpa [hj] using this
   simp [hlt, this]

theorem zdR {xs : List Str} {v : Value} {g : FuncId} {caps : List Value} (S : Nat → Heap → World → Prop) (p : Nat → Bool)
  (hS : ∀ k h w, S k h w → Sub h w ∧ Sl LStr h v xs)
  (hf : ∀ k x h w vs, S k h w → xs[k]? = some x → LStr.R h vs x → ∀ u, vs = [u] → Calls Tryz.prog g (u :: caps).toArray w (fun e w' => ∃ h', e = .returned (.bool (p k)) ∧ S (k + 1) h' w'))
  (hg : ∀ a w, (callFunc g a).run Tryz.prog w = .ok (.enter g a) w) {h : Heap} {w : World} (h0 : S 0 h w) :
  Calls Tryz.prog 105 #[v, .func (.func g) #[] caps.toArray] w (fun e w' => ∃ h' k, e = .returned (.int .i64 (if k < xs.length then (k : Int) else -1)) ∧ k ≤ xs.length ∧ (∀ j, j < k → p j = false) ∧ (k < xs.length → p k = true) ∧ S (if k < xs.length then k + 1 else k) h' w') := by
 refine zN (n := 19) Tryz.func105 X X X<|have hb:=(hS 0 h w h0).2.le;zf<|zt X X<|Y<|zm<|zf<|zR (v := v) X X<|zaK (hS 0 h w h0).2 X zW X<|zi X X<|Y<|zF ?_;refine zau ([4, 5] ++ zbY 8 11) (G := Nat × Heap) (fun ⟨k, _⟩ => [(8, .int .i64 (k : Int))]) (fun ⟨k, h'⟩ w' => S k h' w' ∧ k ≤ xs.length ∧ ∀ j, j < k → p j = false) (fun ⟨k, _⟩ => xs.length - k) ⟨0, h⟩ ⟨rfl, trivial⟩ ⟨h0, by omega, by intros; omega⟩ ?_;rintro ⟨k, h1⟩ _ w1 ⟨hS1, hk, hp⟩;obtain ⟨hsub, hsl⟩ := hS k h1 w1 hS1;refine zf<|zaW X X X<|Y<|zm ?_;refine zag rfl (fun c1 => ?_) (fun c1 => ?_)
 ·replace c1 := zhw c1;refine zx<|E<|zm<|zF<|zf<|zi X X<|zt X X<|Y<|zf<|zhv X X<|zR (v := v) X X<|zi X X ?_;have hy : ∃ y, xs[k]? = some y := ⟨_, List.getElem?_eq_getElem zr⟩;obtain ⟨y, hy⟩ := hy;obtain ⟨b, o, vs, he, hc, hr⟩ := Sl.elem hsl hy;refine zS he X X (hk := X) (hu := zW) (hz := zak) X ?_;obtain ⟨u, rfl⟩ : ∃ u, vs = [u] := by
   have q := LStr.len hr
   match vs, q with
   | [u], _ => exact ⟨u, rfl⟩
  refine M (j := 0) hsub hc X X X zaA X ?_;refine zaE rfl rfl (zce (fs := []) (cs := caps) rfl rfl hg rfl) ((hf k y h1 w1 _ hS1 hy hr _ rfl).mono ?_);rintro e w2 ⟨h2, rfl, hS2⟩;refine ⟨_, rfl, ?_⟩;refine Y ?_;refine zag rfl (fun c2 => ?_) (fun c2 => ?_)
  ·refine zm ?_;refine zn<|zi X X<|zt X X<|Y<|zw ?_
   repeat (first | refine zI ?_ | refine ze ?_)
   refine zc Tryz.results105 ?_;have hlt : k < xs.length := by omega
   exact ⟨h2, k, by rw [if_pos hlt]; rfl, hk, hp, fun _ => c2, by rw [if_pos hlt]; exact hS2⟩
  ·refine zx ?_;refine zL<|E<|zn ?_;refine zj rfl rfl (ziT rfl rfl zr) ?_;refine zi X X<|Y ?_;refine ⟨⟨k + 1, h2⟩, ⟨rfl, trivial⟩, ?_, ⟨hS2, by omega, ?_⟩, ?_⟩
   ·exact zar
   ·intro j hj
    rcases Nat.lt_or_ge j k with h3 | h3
    ·exact hp j h3
    ·obtain rfl : j = k := by omega
     exact c2
   ·show xs.length - (k + 1) < xs.length - k;omega
 ·replace c1 := zjj c1;refine zaI<|zo<|zo<|zam<|E<|zf<|zt X X<|Y<|zw<|zc Tryz.results105 ?_;have hlt : ¬ k < xs.length := by omega
  exact ⟨h1, k, by rw [if_neg hlt]; rfl, hk, hp, fun q => absurd q hlt, by rw [if_neg hlt]; exact hS1⟩

theorem zfn {xs : List Str} {v : Value} {g : FuncId} {caps : List Value} (S : Nat → Heap → World → Prop) (p : Nat → Bool)
  (hS : ∀ k h w, S k h w → Sub h w ∧ Sl LStr h v xs)
  (hf : ∀ k x h w vs, S k h w → xs[k]? = some x → LStr.R h vs x → ∀ u, vs = [u] → Calls Tryz.prog g (u :: caps).toArray w (fun e w' => ∃ h', e = .returned (.bool (p k)) ∧ S (k + 1) h' w'))
  (hg : ∀ a w, (callFunc g a).run Tryz.prog w = .ok (.enter g a) w) {h : Heap} {w : World} (h0 : S 0 h w) :
  Calls Tryz.prog 150 #[v, .func (.func g) #[] caps.toArray] w (fun e w' => ∃ h' k, e = .returned (.bool (decide (k < xs.length))) ∧ k ≤ xs.length ∧ (∀ j, j < k → p j = false) ∧ (k < xs.length → p k = true) ∧ S (if k < xs.length then k + 1 else k) h' w') := by
 refine zN (n := 9) Tryz.func150 X X X<|zf<|zH X X<|Y<|zf<|zR (v := v) X X<|zhv X X ?_;refine zaE rfl rfl (zaZ rfl Tryz.call105 rfl) ((zdR S p hS hf hg h0).mono ?_);rintro e w2 ⟨h2, k, rfl, q1, q2, q3, q4⟩;refine ⟨_, rfl, ?_⟩;refine zgY X X X<|zH X X<|Y<|zw<|zc Tryz.results150 ?_;refine ⟨h2, k, congrArg Ending.returned (zy ?_), q1, q2, q3, q4⟩
 by_cases hlt : k < xs.length
 ·simp [hlt]
 ·simp [hlt]
theorem zfW {xs : List Str} {v : Value} {g : FuncId} {caps : List Value} {h : Heap} {w : World} (hs : Sub h w) (hx : Sl LStr h v xs) (q : Str → Bool)
  (hg : ∀ a w, (callFunc g a).run Tryz.prog w = .ok (.enter g a) w)
  (hf : ∀ x h' w' vs, Le h h' → Sub h' w' → x ∈ xs → LStr.R h' vs x → ∀ u, vs = [u] → Calls Tryz.prog g (u :: caps).toArray w' (Rets h' w' fun _ _ r => r = .bool (q x))) :
  Calls Tryz.prog 150 #[v, .func (.func g) #[] caps.toArray] w (Rets h w fun _ _ r => r = .bool (xs.any q)) := by
 refine (zfn (fun k h' w' => St h w h' w' [] ∧ k ≤ xs.length) (fun k => ((xs[k]?).map q).getD false) (fun k h' w' hk => ⟨hk.1.sub, hx.up hk.1.le⟩) ?_ hg ⟨St.start hs, Nat.zero_le _⟩).mono ?_
 ·rintro k x h' w' vs ⟨st, _⟩ hk hr u hu;refine (hf x h' w' vs st.le st.sub (List.mem_of_getElem? hk) hr u hu).mono ?_;rintro e w'' ⟨h'', r, rfl, s, rfl⟩;obtain ⟨hlt, _⟩ := List.getElem?_eq_some_iff.1 hk;exact ⟨h'', by simp [hk], st.call0 s, hlt⟩
 ·rintro e w' ⟨h', k, rfl, q1, q2, q3, q4⟩;refine ⟨h', _, rfl, q4.1, zy ?_⟩
  by_cases hlt : k < xs.length
  ·have h3 := q3 hlt;rw [List.getElem?_eq_getElem hlt] at h3;simp only [Option.map_some, Option.getD_some] at h3;have : xs.any q = true := List.any_eq_true.2 ⟨_, List.getElem_mem hlt, h3⟩;simp [hlt, this]
  ·have : xs.any q = false := by
    rw [List.any_eq_false];intro x hx';obtain ⟨j, hj⟩ := List.mem_iff_getElem?.1 hx';obtain ⟨h5, _⟩ := List.getElem?_eq_some_iff.1 hj;have := q2 j zr;simpa [hj] using this
   simp [hlt, this]

theorem zfd {xs : List Rule} {v : Value} {g : FuncId} {caps : List Value} (S : Nat → Heap → World → Prop) (p : Nat → Bool)
  (hS : ∀ k h w, S k h w → Sub h w ∧ Sl LRule h v xs)
  (hf : ∀ k x h w vs, S k h w → xs[k]? = some x → LRule.R h vs x → ∀ u, u = .agg vs.toArray → Calls Tryz.prog g (u :: caps).toArray w (fun e w' => ∃ h', e = .returned (.bool (p k)) ∧ S (k + 1) h' w'))
  (hg : ∀ a w, (callFunc g a).run Tryz.prog w = .ok (.enter g a) w) {h : Heap} {w : World} (h0 : S 0 h w) :
  Calls Tryz.prog 197 #[v, .func (.func g) #[] caps.toArray] w (fun e w' => ∃ h' k, e = .returned (.int .i64 (if k < xs.length then (k : Int) else -1)) ∧ k ≤ xs.length ∧ (∀ j, j < k → p j = false) ∧ (k < xs.length → p k = true) ∧ S (if k < xs.length then k + 1 else k) h' w') := by
 refine zN (n := 19) Tryz.func197 X X X<|have hb:=(hS 0 h w h0).2.le;zf<|zt X X<|Y<|zm<|zf<|zR (v := v) X X<|zaK (hS 0 h w h0).2 X zbD X<|zi X X<|Y<|zF ?_;refine zau ([4, 5] ++ zbY 8 11) (G := Nat × Heap) (fun ⟨k, _⟩ => [(8, .int .i64 (k : Int))]) (fun ⟨k, h'⟩ w' => S k h' w' ∧ k ≤ xs.length ∧ ∀ j, j < k → p j = false) (fun ⟨k, _⟩ => xs.length - k) ⟨0, h⟩ ⟨rfl, trivial⟩ ⟨h0, by omega, by intros; omega⟩ ?_;rintro ⟨k, h1⟩ _ w1 ⟨hS1, hk, hp⟩;obtain ⟨hsub, hsl⟩ := hS k h1 w1 hS1;refine zf<|zaW X X X<|Y<|zm ?_;refine zag rfl (fun c1 => ?_) (fun c1 => ?_)
 ·replace c1 := zhw c1;refine zx<|E<|zm<|zF<|zf<|zi X X<|zt X X<|Y<|zf<|zhv X X<|zR (v := v) X X<|zi X X ?_;have hy : ∃ y, xs[k]? = some y := ⟨_, List.getElem?_eq_getElem zr⟩;obtain ⟨y, hy⟩ := hy;obtain ⟨b, o, vs, he, hc, hr⟩ := Sl.elem hsl hy;refine zS he X X (hk := X) (hu := zbD) (hz := zdu) X<|zA hsub hc X Tryz.isAgg122 zdu (LRule.len hr) X ?_;refine zaE rfl rfl (zce (fs := []) (cs := caps) rfl rfl hg rfl) ((hf k y h1 w1 _ hS1 hy hr _ rfl).mono ?_);rintro e w2 ⟨h2, rfl, hS2⟩;refine ⟨_, rfl, ?_⟩;refine Y ?_;refine zag rfl (fun c2 => ?_) (fun c2 => ?_)
  ·refine zm ?_;refine zn<|zi X X<|zt X X<|Y<|zw ?_
   repeat (first | refine zI ?_ | refine ze ?_)
   refine zc Tryz.results197 ?_;have hlt : k < xs.length := by omega
   exact ⟨h2, k, by rw [if_pos hlt]; rfl, hk, hp, fun _ => c2, by rw [if_pos hlt]; exact hS2⟩
  ·refine zx ?_;refine zL<|E<|zn ?_;refine zj rfl rfl (ziT rfl rfl zr) ?_;refine zi X X<|Y ?_;refine ⟨⟨k + 1, h2⟩, ⟨rfl, trivial⟩, ?_, ⟨hS2, by omega, ?_⟩, ?_⟩
   ·exact zar
   ·intro j hj
    rcases Nat.lt_or_ge j k with h3 | h3
    ·exact hp j h3
    ·obtain rfl : j = k := by omega
     exact c2
   ·show xs.length - (k + 1) < xs.length - k;omega
 ·replace c1 := zjj c1;refine zaI<|zo<|zo<|zam<|E<|zf<|zt X X<|Y<|zw<|zc Tryz.results197 ?_;have hlt : ¬ k < xs.length := by omega
  exact ⟨h1, k, by rw [if_neg hlt]; rfl, hk, hp, fun q => absurd q hlt, by rw [if_neg hlt]; exact hS1⟩

theorem zeG {xs : List Rule} {v : Value} {g : FuncId} {caps : List Value} (S : Nat → Heap → World → Prop) (p : Nat → Bool)
  (hS : ∀ k h w, S k h w → Sub h w ∧ Sl LRule h v xs)
  (hf : ∀ k x h w vs, S k h w → xs[k]? = some x → LRule.R h vs x → ∀ u, u = .agg vs.toArray → Calls Tryz.prog g (u :: caps).toArray w (fun e w' => ∃ h', e = .returned (.bool (p k)) ∧ S (k + 1) h' w'))
  (hg : ∀ a w, (callFunc g a).run Tryz.prog w = .ok (.enter g a) w) {h : Heap} {w : World} (h0 : S 0 h w) :
  Calls Tryz.prog 153 #[v, .func (.func g) #[] caps.toArray] w (fun e w' => ∃ h' k, e = .returned (.bool (decide (k < xs.length))) ∧ k ≤ xs.length ∧ (∀ j, j < k → p j = false) ∧ (k < xs.length → p k = true) ∧ S (if k < xs.length then k + 1 else k) h' w') := by
 refine zN (n := 9) Tryz.func153 X X X<|zf<|zH X X<|Y<|zf<|zR (v := v) X X<|zhv X X ?_;refine zaE rfl rfl (zaZ rfl Tryz.call197 rfl) ((zfd S p hS hf hg h0).mono ?_);rintro e w2 ⟨h2, k, rfl, q1, q2, q3, q4⟩;refine ⟨_, rfl, ?_⟩;refine zgY X X X<|zH X X<|Y<|zw<|zc Tryz.results153 ?_;refine ⟨h2, k, congrArg Ending.returned (zy ?_), q1, q2, q3, q4⟩
 by_cases hlt : k < xs.length
 ·simp [hlt]
 ·simp [hlt]
theorem zek {xs : List Decision} {v : Value} {g : FuncId} {caps : List Value} (S : Nat → Heap → World → Prop) (p : Nat → Bool)
  (hS : ∀ k h w, S k h w → Sub h w ∧ Sl LDecision h v xs)
  (hf : ∀ k x h w vs, S k h w → xs[k]? = some x → LDecision.R h vs x → ∀ u, u = .agg vs.toArray → Calls Tryz.prog g (u :: caps).toArray w (fun e w' => ∃ h', e = .returned (.bool (p k)) ∧ S (k + 1) h' w'))
  (hg : ∀ a w, (callFunc g a).run Tryz.prog w = .ok (.enter g a) w) {h : Heap} {w : World} (h0 : S 0 h w) :
  Calls Tryz.prog 199 #[v, .func (.func g) #[] caps.toArray] w (fun e w' => ∃ h' k, e = .returned (.int .i64 (if k < xs.length then (k : Int) else -1)) ∧ k ≤ xs.length ∧ (∀ j, j < k → p j = false) ∧ (k < xs.length → p k = true) ∧ S (if k < xs.length then k + 1 else k) h' w') := by
 refine zN (n := 19) Tryz.func199 X X X<|have hb:=(hS 0 h w h0).2.le;zf<|zt X X<|Y<|zm<|zf<|zR (v := v) X X<|zaK (hS 0 h w h0).2 X zaU X<|zi X X<|Y<|zF ?_;refine zau ([4, 5] ++ zbY 8 11) (G := Nat × Heap) (fun ⟨k, _⟩ => [(8, .int .i64 (k : Int))]) (fun ⟨k, h'⟩ w' => S k h' w' ∧ k ≤ xs.length ∧ ∀ j, j < k → p j = false) (fun ⟨k, _⟩ => xs.length - k) ⟨0, h⟩ ⟨rfl, trivial⟩ ⟨h0, by omega, by intros; omega⟩ ?_;rintro ⟨k, h1⟩ _ w1 ⟨hS1, hk, hp⟩;obtain ⟨hsub, hsl⟩ := hS k h1 w1 hS1;refine zf<|zaW X X X<|Y<|zm ?_;refine zag rfl (fun c1 => ?_) (fun c1 => ?_)
 ·replace c1 := zhw c1;refine zx<|E<|zm<|zF<|zf<|zi X X<|zt X X<|Y<|zf<|zhv X X<|zR (v := v) X X<|zi X X ?_;have hy : ∃ y, xs[k]? = some y := ⟨_, List.getElem?_eq_getElem zr⟩;obtain ⟨y, hy⟩ := hy;obtain ⟨b, o, vs, he, hc, hr⟩ := Sl.elem hsl hy;refine zS he X X (hk := X) (hu := zaU) (hz := zab) X<|zA hsub hc X zaY zab (LDecision.len hr) X ?_;refine zaE rfl rfl (zce (fs := []) (cs := caps) rfl rfl hg rfl) ((hf k y h1 w1 _ hS1 hy hr _ rfl).mono ?_);rintro e w2 ⟨h2, rfl, hS2⟩;refine ⟨_, rfl, ?_⟩;refine Y ?_;refine zag rfl (fun c2 => ?_) (fun c2 => ?_)
  ·refine zm ?_;refine zn<|zi X X<|zt X X<|Y<|zw ?_
   repeat (first | refine zI ?_ | refine ze ?_)
   refine zc Tryz.results199 ?_;have hlt : k < xs.length := by omega
   exact ⟨h2, k, by rw [if_pos hlt]; rfl, hk, hp, fun _ => c2, by rw [if_pos hlt]; exact hS2⟩
  ·refine zx ?_;refine zL<|E<|zn ?_;refine zj rfl rfl (ziT rfl rfl zr) ?_;refine zi X X<|Y ?_;refine ⟨⟨k + 1, h2⟩, ⟨rfl, trivial⟩, ?_, ⟨hS2, by omega, ?_⟩, ?_⟩
   ·exact zar
   ·intro j hj
    rcases Nat.lt_or_ge j k with h3 | h3
    ·exact hp j h3
    ·obtain rfl : j = k := by omega
     exact c2
   ·show xs.length - (k + 1) < xs.length - k;omega
 ·replace c1 := zjj c1;refine zaI<|zo<|zo<|zam<|E<|zf<|zt X X<|Y<|zw<|zc Tryz.results199 ?_;have hlt : ¬ k < xs.length := by omega
  exact ⟨h1, k, by rw [if_neg hlt]; rfl, hk, hp, fun q => absurd q hlt, by rw [if_neg hlt]; exact hS1⟩

theorem zdZ {xs : List Decision} {v : Value} {g : FuncId} {caps : List Value} (S : Nat → Heap → World → Prop) (p : Nat → Bool)
  (hS : ∀ k h w, S k h w → Sub h w ∧ Sl LDecision h v xs)
  (hf : ∀ k x h w vs, S k h w → xs[k]? = some x → LDecision.R h vs x → ∀ u, u = .agg vs.toArray → Calls Tryz.prog g (u :: caps).toArray w (fun e w' => ∃ h', e = .returned (.bool (p k)) ∧ S (k + 1) h' w'))
  (hg : ∀ a w, (callFunc g a).run Tryz.prog w = .ok (.enter g a) w) {h : Heap} {w : World} (h0 : S 0 h w) :
  Calls Tryz.prog 158 #[v, .func (.func g) #[] caps.toArray] w (fun e w' => ∃ h' k, e = .returned (.bool (decide (k < xs.length))) ∧ k ≤ xs.length ∧ (∀ j, j < k → p j = false) ∧ (k < xs.length → p k = true) ∧ S (if k < xs.length then k + 1 else k) h' w') := by
 refine zN (n := 9) Tryz.func158 X X X<|zf<|zH X X<|Y<|zf<|zR (v := v) X X<|zhv X X ?_;refine zaE rfl rfl (zaZ rfl Tryz.call199 rfl) ((zek S p hS hf hg h0).mono ?_);rintro e w2 ⟨h2, k, rfl, q1, q2, q3, q4⟩;refine ⟨_, rfl, ?_⟩;refine zgY X X X<|zH X X<|Y<|zw<|zc Tryz.results158 ?_;refine ⟨h2, k, congrArg Ending.returned (zy ?_), q1, q2, q3, q4⟩
 by_cases hlt : k < xs.length
 ·simp [hlt]
 ·simp [hlt]
theorem zeL {xs : List Voter} {v : Value} {g : FuncId} {caps : List Value} (S : Nat → Heap → World → Prop) (p : Nat → Bool)
  (hS : ∀ k h w, S k h w → Sub h w ∧ Sl LVoter h v xs)
  (hf : ∀ k x h w vs, S k h w → xs[k]? = some x → LVoter.R h vs x → ∀ u, u = .agg vs.toArray → Calls Tryz.prog g (u :: caps).toArray w (fun e w' => ∃ h', e = .returned (.bool (p k)) ∧ S (k + 1) h' w'))
  (hg : ∀ a w, (callFunc g a).run Tryz.prog w = .ok (.enter g a) w) {h : Heap} {w : World} (h0 : S 0 h w) :
  Calls Tryz.prog 242 #[v, .func (.func g) #[] caps.toArray] w (fun e w' => ∃ h' k, e = .returned (.int .i64 (if k < xs.length then (k : Int) else -1)) ∧ k ≤ xs.length ∧ (∀ j, j < k → p j = false) ∧ (k < xs.length → p k = true) ∧ S (if k < xs.length then k + 1 else k) h' w') := by
 refine zN (n := 19) Tryz.func242 X X X<|have hb:=(hS 0 h w h0).2.le;zf<|zt X X<|Y<|zm<|zf<|zR (v := v) X X<|zaK (hS 0 h w h0).2 X zao X<|zi X X<|Y<|zF ?_;refine zau ([4, 5] ++ zbY 8 11) (G := Nat × Heap) (fun ⟨k, _⟩ => [(8, .int .i64 (k : Int))]) (fun ⟨k, h'⟩ w' => S k h' w' ∧ k ≤ xs.length ∧ ∀ j, j < k → p j = false) (fun ⟨k, _⟩ => xs.length - k) ⟨0, h⟩ ⟨rfl, trivial⟩ ⟨h0, by omega, by intros; omega⟩ ?_;rintro ⟨k, h1⟩ _ w1 ⟨hS1, hk, hp⟩;obtain ⟨hsub, hsl⟩ := hS k h1 w1 hS1;refine zf<|zaW X X X<|Y<|zm ?_;refine zag rfl (fun c1 => ?_) (fun c1 => ?_)
 ·replace c1 := zhw c1;refine zx<|E<|zm<|zF<|zf<|zi X X<|zt X X<|Y<|zf<|zhv X X<|zR (v := v) X X<|zi X X ?_;have hy : ∃ y, xs[k]? = some y := ⟨_, List.getElem?_eq_getElem zr⟩;obtain ⟨y, hy⟩ := hy;obtain ⟨b, o, vs, he, hc, hr⟩ := Sl.elem hsl hy;refine zS he X X (hk := X) (hu := zao) (hz := zbg) X<|zA hsub hc X zgB zbg (LVoter.len hr) X ?_;refine zaE rfl rfl (zce (fs := []) (cs := caps) rfl rfl hg rfl) ((hf k y h1 w1 _ hS1 hy hr _ rfl).mono ?_);rintro e w2 ⟨h2, rfl, hS2⟩;refine ⟨_, rfl, ?_⟩;refine Y ?_;refine zag rfl (fun c2 => ?_) (fun c2 => ?_)
  ·refine zm ?_;refine zn<|zi X X<|zt X X<|Y<|zw ?_
   repeat (first | refine zI ?_ | refine ze ?_)
   refine zc Tryz.results242 ?_;have hlt : k < xs.length := by omega
   exact ⟨h2, k, by rw [if_pos hlt]; rfl, hk, hp, fun _ => c2, by rw [if_pos hlt]; exact hS2⟩
  ·refine zx ?_;refine zL<|E<|zn ?_;refine zj rfl rfl (ziT rfl rfl zr) ?_;refine zi X X<|Y ?_;refine ⟨⟨k + 1, h2⟩, ⟨rfl, trivial⟩, ?_, ⟨hS2, by omega, ?_⟩, ?_⟩
   ·exact zar
   ·intro j hj
    rcases Nat.lt_or_ge j k with h3 | h3
    ·exact hp j h3
    ·obtain rfl : j = k := by omega
     exact c2
   ·show xs.length - (k + 1) < xs.length - k;omega
 ·replace c1 := zjj c1;refine zaI<|zo<|zo<|zam<|E<|zf<|zt X X<|Y<|zw<|zc Tryz.results242 ?_;have hlt : ¬ k < xs.length := by omega
  exact ⟨h1, k, by rw [if_neg hlt]; rfl, hk, hp, fun q => absurd q hlt, by rw [if_neg hlt]; exact hS1⟩

theorem zex {xs : List Voter} {v : Value} {g : FuncId} {caps : List Value} (S : Nat → Heap → World → Prop) (p : Nat → Bool)
  (hS : ∀ k h w, S k h w → Sub h w ∧ Sl LVoter h v xs)
  (hf : ∀ k x h w vs, S k h w → xs[k]? = some x → LVoter.R h vs x → ∀ u, u = .agg vs.toArray → Calls Tryz.prog g (u :: caps).toArray w (fun e w' => ∃ h', e = .returned (.bool (p k)) ∧ S (k + 1) h' w'))
  (hg : ∀ a w, (callFunc g a).run Tryz.prog w = .ok (.enter g a) w) {h : Heap} {w : World} (h0 : S 0 h w) :
  Calls Tryz.prog 240 #[v, .func (.func g) #[] caps.toArray] w (fun e w' => ∃ h' k, e = .returned (.bool (decide (k < xs.length))) ∧ k ≤ xs.length ∧ (∀ j, j < k → p j = false) ∧ (k < xs.length → p k = true) ∧ S (if k < xs.length then k + 1 else k) h' w') := by
 refine zN (n := 9) Tryz.func240 X X X<|zf<|zH X X<|Y<|zf<|zR (v := v) X X<|zhv X X ?_;refine zaE rfl rfl (zaZ rfl Tryz.call242 rfl) ((zeL S p hS hf hg h0).mono ?_);rintro e w2 ⟨h2, k, rfl, q1, q2, q3, q4⟩;refine ⟨_, rfl, ?_⟩;refine zgY X X X<|zH X X<|Y<|zw<|zc Tryz.results240 ?_;refine ⟨h2, k, congrArg Ending.returned (zy ?_), q1, q2, q3, q4⟩
 by_cases hlt : k < xs.length
 ·simp [hlt]
 ·simp [hlt]
theorem zeM {xs : List Voter} {v : Value} {g : FuncId} {caps : List Value} {h : Heap} {w : World} (hs : Sub h w) (hx : Sl LVoter h v xs) (q : Voter → Bool)
  (hg : ∀ a w, (callFunc g a).run Tryz.prog w = .ok (.enter g a) w)
  (hf : ∀ x h' w' vs, Le h h' → Sub h' w' → x ∈ xs → LVoter.R h' vs x → ∀ u, u = .agg vs.toArray → Calls Tryz.prog g (u :: caps).toArray w' (Rets h' w' fun _ _ r => r = .bool (q x))) :
  Calls Tryz.prog 240 #[v, .func (.func g) #[] caps.toArray] w (Rets h w fun _ _ r => r = .bool (xs.any q)) := by
 refine (zex (fun k h' w' => St h w h' w' [] ∧ k ≤ xs.length) (fun k => ((xs[k]?).map q).getD false) (fun k h' w' hk => ⟨hk.1.sub, hx.up hk.1.le⟩) ?_ hg ⟨St.start hs, Nat.zero_le _⟩).mono ?_
 ·rintro k x h' w' vs ⟨st, _⟩ hk hr u hu;refine (hf x h' w' vs st.le st.sub (List.mem_of_getElem? hk) hr u hu).mono ?_;rintro e w'' ⟨h'', r, rfl, s, rfl⟩;obtain ⟨hlt, _⟩ := List.getElem?_eq_some_iff.1 hk;exact ⟨h'', by simp [hk], st.call0 s, hlt⟩
 ·rintro e w' ⟨h', k, rfl, q1, q2, q3, q4⟩;refine ⟨h', _, rfl, q4.1, zy ?_⟩
  by_cases hlt : k < xs.length
  ·have h3 := q3 hlt;rw [List.getElem?_eq_getElem hlt] at h3;simp only [Option.map_some, Option.getD_some] at h3;have : xs.any q = true := List.any_eq_true.2 ⟨_, List.getElem_mem hlt, h3⟩;simp [hlt, this]
  ·have : xs.any q = false := by
    rw [List.any_eq_false];intro x hx';obtain ⟨j, hj⟩ := List.mem_iff_getElem?.1 hx';obtain ⟨h5, _⟩ := List.getElem?_eq_some_iff.1 hj;have := q2 j zr;simpa [hj] using this
   simp [hlt, this]
end Go.Pk

namespace Go.Pk
open Go Go.RowKit Go.Proofs
theorem c_leaf_in_1 {h : Heap} {w : World} (hs : Sub h w) (n : Int) {lo_b : Nat} {lo : Int} (lo_c : Cells h lo_b 0 [.int .i64 lo]) {hi_b : Nat} {hi : Int} (hi_c : Cells h hi_b 0 [.int .i64 hi]) : Calls Tryz.prog 179 #[.int .i64 n, .pointer (some ⟨lo_b, 0, none⟩), .pointer (some ⟨hi_b, 0, none⟩)] w (Rets h w (fun _ _ res_ => res_ = .bool ((decide (n < lo) || decide (hi < n))))) := by
 refine zN (n := 13) Tryz.func179 X X X<|have st0:=zbl hs;zf<|zH X X<|Y<|zf<|zi X X<|M (j := 0) st0.sub lo_c X X X zB X<|zaW X X X<|zaa X X ?_;refine zae (d := 8) rfl (fun g1 => ?_) (fun g1 => ?_)
 ·refine zQ 3 X<|zX (v := (.bool _)) X X X<|zH X X<|Y<|zw<|zc Tryz.results179 ?_;refine ⟨h, _, rfl, st0.done, ?_⟩;refine zy ?_
  first | (simp_all; done) | (simp_all; omega)
 refine Z X X X<|zi X X<|Z X X X<|M (j := 0) st0.sub hi_c X X X zB X<|Z X X X<|zdy X X X<|zT (v := (.bool _)) X X X<|zH X X<|Y<|zw<|zc Tryz.results179 ?_;refine ⟨h, _, rfl, st0.done, ?_⟩;refine zy ?_
 first | (simp_all; done) | (simp_all; omega)
theorem zfL {h : Heap} {w : World} (hs : Sub h w) (lo : Int) (hi : Int) {all__v : Value} {all_ : (List Int)} (all__f : Sl LInt h all__v all_) : Calls Tryz.prog 125 #[.int .i64 lo, .int .i64 hi, all__v] w (Rets h w (fun _ _ res_ => res_ = .bool (zcQ all_ lo hi))) := by
 refine zN (n := 11) Tryz.func125 X X X<|have st0:=zbl hs;have all__f_b:=all__f.le;zf<|zJ st0 (cs := [.int .i64 lo]) X X X<|fun b1 w2 h3 le4 hc5 st6=>zJ st6 (cs := [.int .i64 hi]) X X X<|fun b7 w8 h9 le10 hc11 st12=>zH X X<|Y<|zf<|zR (v := all__v) X X<|zcS X X X ?_;have l13 := le4.t le10;refine zk st12 rfl rfl rfl Tryz.call97 rfl (zdB st12.sub (all__f.up l13) (fun x_ => (decide ((x_) < (lo)) || decide ((hi) < (x_)))) Tryz.call179 (fun x_ h_ w_ vs_ le_ hs_ hx_ hr_ u_ hu_ => by cases hu_; cases hr_; exact c_leaf_in_1 hs_ _ (lo := lo) ((hc5.up le10).up le_) (hi := hi) (hc11.up le_))) ?_;intro r14 w15 h16 le17 st18 q19;subst q19;refine zby X X<|zH X X<|Y<|zw<|zc Tryz.results125 ?_;refine ⟨h16, _, rfl, st18.done, ?_⟩;refine zy ?_;exact inAll_eq all_ lo hi
theorem c_stem_in_1 {h : Heap} {w : World} (hs : Sub h w) (n : Int) {lo_b : Nat} {lo : Int} (lo_c : Cells h lo_b 0 [.int .i64 lo]) {hi_b : Nat} {hi : Int} (hi_c : Cells h hi_b 0 [.int .i64 hi]) : Calls Tryz.prog 157 #[.int .i64 n, .pointer (some ⟨lo_b, 0, none⟩), .pointer (some ⟨hi_b, 0, none⟩)] w (Rets h w (fun _ _ res_ => res_ = .bool ((decide (n < lo) || decide (hi < n))))) := by
 refine zN (n := 13) Tryz.func157 X X X<|have st0:=zbl hs;zf<|zH X X<|Y<|zf<|zi X X<|M (j := 0) st0.sub lo_c X X X zB X<|zaW X X X<|zaa X X ?_;refine zae (d := 8) rfl (fun g1 => ?_) (fun g1 => ?_)
 ·refine zQ 3 X<|zX (v := (.bool _)) X X X<|zH X X<|Y<|zw<|zc Tryz.results157 ?_;refine ⟨h, _, rfl, st0.done, ?_⟩;refine zy ?_
  first | (simp_all; done) | (simp_all; omega)
 refine Z X X X<|zi X X<|Z X X X<|M (j := 0) st0.sub hi_c X X X zB X<|Z X X X<|zdy X X X<|zT (v := (.bool _)) X X X<|zH X X<|Y<|zw<|zc Tryz.results157 ?_;refine ⟨h, _, rfl, st0.done, ?_⟩;refine zy ?_
 first | (simp_all; done) | (simp_all; omega)
theorem zjb {h : Heap} {w : World} (hs : Sub h w) (lo : Int) (hi : Int) {all__v : Value} {all_ : (List Int)} (all__f : Sl LInt h all__v all_) : Calls Tryz.prog 110 #[.int .i64 lo, .int .i64 hi, all__v] w (Rets h w (fun _ _ res_ => res_ = .bool (zcQ all_ lo hi))) := by
 refine zN (n := 11) Tryz.func110 X X X<|have st0:=zbl hs;have all__f_b:=all__f.le;zf<|zJ st0 (cs := [.int .i64 lo]) X X X<|fun b1 w2 h3 le4 hc5 st6=>zJ st6 (cs := [.int .i64 hi]) X X X<|fun b7 w8 h9 le10 hc11 st12=>zH X X<|Y<|zf<|zR (v := all__v) X X<|zcS X X X ?_;have l13 := le4.t le10;refine zk st12 rfl rfl rfl Tryz.call97 rfl (zdB st12.sub (all__f.up l13) (fun x_ => (decide ((x_) < (lo)) || decide ((hi) < (x_)))) Tryz.call157 (fun x_ h_ w_ vs_ le_ hs_ hx_ hr_ u_ hu_ => by cases hu_; cases hr_; exact c_stem_in_1 hs_ _ (lo := lo) ((hc5.up le10).up le_) (hi := hi) (hc11.up le_))) ?_;intro r14 w15 h16 le17 st18 q19;subst q19;refine zby X X<|zH X X<|Y<|zw<|zc Tryz.results110 ?_;refine ⟨h16, _, rfl, st18.done, ?_⟩;refine zy ?_;exact inAll_eq all_ lo hi
theorem c_leaf_word_1 {h : Heap} {w : World} (hs : Sub h w) (b : Int) (b_l : 0 ≤ b ∧ b ≤ 255) : Calls Tryz.prog 196 #[.int .u8 b] w (Rets h w (fun _ _ res_ => res_ = .bool ((decide (b < 97) || decide (122 < b))))) := by
 refine zN (n := 9) Tryz.func196 X X X<|have st0:=zbl hs;zf<|zH X X<|Y<|zf<|zi X X<|zaW X X X<|zaa X X ?_;refine zae (d := 5) rfl (fun g1 => ?_) (fun g1 => ?_)
 ·refine zQ 2 X<|zX (v := (.bool _)) X X X<|zH X X<|Y<|zw<|zc Tryz.results196 ?_;refine ⟨h, _, rfl, st0.done, ?_⟩;refine zy ?_
  first | (simp_all; done) | (simp_all; omega)
 refine Z X X X<|zi X X<|Z X X X<|zdy X X X<|zT (v := (.bool _)) X X X<|zH X X<|Y<|zw<|zc Tryz.results196 ?_;refine ⟨h, _, rfl, st0.done, ?_⟩;refine zy ?_
 first | (simp_all; done) | (simp_all; omega)
theorem c_leaf_word {h : Heap} {w : World} (hs : Sub h w) (s : Str) (s_le : s.length ≤ 281474976710656) : Calls Tryz.prog 152 #[zP s] w (Rets h w (fun _ _ res_ => res_ = .bool (zdH s))) := by
 refine zN (n := 13) Tryz.func152 X X X<|have st0:=zbl hs;zf<|zH X X<|Y<|zf<|zcs X X<|zcA X zax X<|zaf (L := LInt) (xs := [(s.length : Int)]) (cs := [.int .i64 (s.length : Int)]) st0 (Enc.cons (L := LInt) (vs := [.int .i64 (s.length : Int)]) (x := (s.length : Int)) (h := h) (X) Enc.nil) X X X zg Tryz.info3 X X X za<|fun v1 w2 h5 le6 f3 st4=>zk st4 X X X zfQ X (zfL st4.sub _ _ f3)<|fun r7 w8 h9 le10 st11 q12=> ?_;subst q12;refine zaa X X ?_;refine zay (d := 7) rfl (fun g13 => ?_) (fun g13 => ?_)
 ·refine Z X X X<|zcs X X<|Z X X X ?_;refine OpsL.strBytes st11 (s := s) rfl (by first | assumption | omega | (simp; omega)) rfl zax Tryz.underlying193 Tryz.underlying5 zbs ?_;intro v14 w15 h16 le17 f18 st19;refine Z X X X ?_;refine zk st19 rfl rfl rfl Tryz.call114 rfl (zep st19.sub f18 (fun x_ => (decide ((x_) < 97) || decide (122 < (x_)))) Tryz.call196 (fun x_ h_ w_ vs_ le_ hs_ hx_ hr_ u_ hu_ => by cases hu_; obtain ⟨hr1_, hr2_⟩ := hr_; cases hr1_; exact c_leaf_word_1 hs_ _ hr2_)) ?_;intro r20 w21 h22 le23 st24 q25;subst q25;refine Z X X X<|zby X X<|zX (v := (.bool _)) X X X<|zH X X<|Y<|zw<|zc Tryz.results152 ?_;refine ⟨h22, _, rfl, st24.done, ?_⟩;refine zy ?_;simp_all [wordB_eq]
 refine zQ 4 X<|zT (v := (.bool _)) X X X<|zH X X<|Y<|zw<|zc Tryz.results152 ?_;refine ⟨h9, _, rfl, st11.done, ?_⟩;refine zy ?_;simp_all [wordB_eq]
theorem c_leaf_Check_1 {h : Heap} {w : World} (hs : Sub h w) (s : Str) (s_le : s.length ≤ 281474976710656) : Calls Tryz.prog 151 #[zP s] w (Rets h w (fun _ _ res_ => res_ = .bool ((!zdH s)))) := by
 refine zN (n := 6) Tryz.func151 X X X<|have st0:=zbl hs;zf<|zH X X<|Y<|zf<|zcs X X<|zk st0 X X X Tryz.call152 X (c_leaf_word st0.sub _ zbp)<|fun r1 w2 h3 le4 st5 q6=> ?_;subst q6;refine zby X X<|zH X X<|Y<|zw<|zc Tryz.results151 ?_;refine ⟨h3, _, rfl, st5.done, ?_⟩;refine zy ?_;rfl
theorem c_leaf_Check {h : Heap} {w : World} (hs : Sub h w) {t : Text} {t_v0 : Value} (t_f0 : Sl LChapter h t_v0 t.chapters) : Calls Tryz.prog 106 #[.agg #[t_v0]] w (Rets h w (fun _ _ res_ => res_ = .int .i64 ((if zbk t then 0 else 10)))) := by
 refine zN (n := 64) Tryz.func106 X X X<|have st0:=zbl hs;have t_f0_b:=t_f0.le;zf<|zJ st0 (cs := [t_v0]) X X X<|fun b1 w2 h3 le4 hc5 st6=>zt X X<|Y<|W.scope<|zm<|zf<|U X zaP X zbw X X<|M (j := 0) st6.sub hc5 X X X zca X<|zaK (t_f0.up le4) X zaH X<|zaf (L := LInt) (xs := [(t.chapters.length : Int)]) (cs := [.int .i64 (t.chapters.length : Int)]) st6 (Enc.cons (L := LInt) (vs := [.int .i64 (t.chapters.length : Int)]) (x := (t.chapters.length : Int)) (h := h3) (X) Enc.nil) X X X zg Tryz.info3 X X X za<|fun v7 w8 h11 le12 f9 st10=>zk st10 X X X zfQ X (zfL st10.sub _ _ f9)<|fun r13 w14 h15 le16 st17 q18=> ?_;subst q18;refine zby X X<|Y ?_;refine zag rfl (fun c19 => ?_) (fun c19 => ?_)
 ·refine zf<|zt X X<|Y<|zw<|ze<|zeF<|zc zeQ ?_;refine ⟨h15, _, rfl, st17.done, ?_⟩;refine zad ?_;simp_all [zbk]
 refine zx<|E<|zf<|zt X X<|Y<|zf<|zfR (κ := Int) (υ := Bool) (ek := (fun n : Int => .int .i64 n)) (eu := (fun b : Bool => .bool b)) st17 X<|fun v20 o21 w22 f23 st24=> ?_;obtain ⟨mb25, rfl⟩ := f23.form;have nd26 : (([] : List (Int × Bool)).map (·.1)).Nodup := by simp
 refine zah (v := (.map (some mb25))) X X<|Y<|zm<|W.label<|E<|zm<|zf<|U X zaP X zbw X X<|M (j := 0) st24.sub (hc5.up (le12.t le16)) X X X zca X<|have l27:=(le4.t le12).t le16;zaK (t_f0.up l27) X zaH X<|zi X X<|Y<|zF ?_;refine zau ([2, 3, 6, 8] ++ zbY 19 44) (G := Nat × List (Int × Bool) × List (Nat × Obj) × Heap) (fun ⟨i, m, o_4, h28⟩ => [(3, .int .i64 0), (19, .int .i64 (i : Int))]) (fun ⟨i, m, o_4, h28⟩ w' => Le h15 h28 ∧ St h w h28 w' [o_4] ∧ (OM (fun n : Int => .int .i64 n) (fun b : Bool => .bool b) (m) o_4 (.map (some mb25))) ∧ (((m).map (·.1)).Nodup) ∧ (i ≤ t.chapters.length) ∧ ((t.chapters.take i).all zbM = true) ∧ (((t.chapters.take i).map (·.id)).Nodup) ∧ (∀ k, (zbO m k).getD false = decide (k ∈ (t.chapters.take i).map (·.id)))) (fun ⟨i, m, o_4, h28⟩ => t.chapters.length - i) ⟨0, [], o21, h15⟩ ⟨rfl, rfl, trivial⟩ ⟨Le.refl _, st24, (by have q := f23; exact q), (by have q := nd26; exact q), zaX, zaX, zaX, (by intro k; simp [zbO])⟩ ?_;rintro ⟨i, m, o_4, h28⟩ _ w31 ⟨le29, st30, hM_4, hN_4, hi, hA, hN, hm⟩;refine zf<|zaW X X X<|Y<|zm ?_;refine zD rfl (fun c32 => ?_) (fun c32 => ?_)
 ·refine zx<|E<|zm<|zF<|zf ?_;obtain ⟨c, hc⟩ : ∃ y_, (t.chapters)[i]? = some y_ := zbu zr;have l37 := l27.t le29;obtain ⟨b33, o34, _, he36, hc35, hr_c⟩ := Sl.elem (t_f0.up l37) hc;obtain ⟨v38, rfl, f39⟩ := hr_c;have f39_b := f39.le;refine zS he36 X X (hk := X) (hu := zaH) (hz := zbA) X<|zA st30.sub hc35 X Tryz.isAgg107 zbA X X<|zV st30 Tryz.zeroValue107 X X<|fun b40 w41 st42=>zM st42 (k := 1) X X X (zb X (zb f39.one zat)) zbA X X X<|fun w43 st44=> ?_;obtain ⟨h45, le46, hb47, st49⟩ := st44.freeze (k := 1) rfl;have hc48 := Cells.of hb47;refine Y<|zm<|zf<|U X zaD X zl X X<|M (j := 0) st49.sub hc48 X X X zB X<|zaf (L := LInt) (xs := [(c.id)]) (cs := [.int .i64 (c.id)]) st49 (Enc.cons (L := LInt) (vs := [.int .i64 (c.id)]) (x := (c.id)) (h := h45) (X) Enc.nil) X X X zg Tryz.info3 X X X za<|fun v50 w51 h54 le55 f52 st53=>zk st53 X X X zfQ X (zfL st53.sub _ _ f52)<|fun r56 w57 h58 le59 st60 q61=> ?_;subst q61;refine zby X X<|zaa X X ?_;refine zay (d := 28) rfl (fun g62 => ?_) (fun g62 => ?_)
  ·refine zQ 4 X<|zX (v := (.bool _)) X X X<|zaa X X<|zQ 6 X<|zX (v := (.bool _)) X X X<|Y ?_;refine zag rfl (fun c63 => ?_) (fun c63 => ?_)
   ·refine zf<|zt X X<|Y<|zw<|ze<|zI<|ze<|ze<|zI<|ze<|zeF<|zc zeQ ?_;refine ⟨h58, _, rfl, st60.done, ?_⟩;refine zad ?_;have q0 : zbM c = false := by
     have q := g62;simp at q;simp [zbM, q]
    have q := zcM (p := zbM) hc q0;simp [zbk, q]
   cases c63
  refine Z X X X<|zR (v := (.map (some mb25))) X X<|Z X X X<|U X zaD X zl X X<|Z X X X<|M (j := 0) st60.sub (hc48.up (le55.t le59)) X X X zB X<|Z X X X<|zj X X (r_look (k := (c.id)) (zu := false) (zjp zcg) Tryz.underlying187 hM_4 (st60.ent (k := 0) X) zfM X X X)<|zT (v := (.bool _)) X X X<|zaa X X ?_;refine zay (d := 34) rfl (fun g64 => ?_) (fun g64 => ?_)
  ·refine zQ 6 X<|zX (v := (.bool _)) X X X<|Y ?_;refine zag rfl (fun c65 => ?_) (fun c65 => ?_)
   ·refine zf<|zt X X<|Y<|zw<|ze<|zI<|ze<|ze<|zI<|ze<|zeF<|zc zeQ ?_;refine ⟨h58, _, rfl, st60.done, ?_⟩;refine zad ?_;have q0 := g64;rw [hm] at q0;have q := ziJ (f := (·.id)) hc (by simpa using q0);simp [zbk, q]
   cases c65
  refine Z X X X<|U X zaD X zbJ X X<|Z X X X<|M (j := 1) st60.sub (hc48.up (le55.t le59)) X X X zcn X<|Z X X X<|zaK (f39.up ((le46.t le55).t le59)) X zaO X<|Z X X X<|zaf (L := LInt) (xs := [(c.lines.length : Int)]) (cs := [.int .i64 (c.lines.length : Int)]) st60 (Enc.cons (L := LInt) (vs := [.int .i64 (c.lines.length : Int)]) (x := (c.lines.length : Int)) (h := h58) (X) Enc.nil) X X X zg Tryz.info3 X X X za<|fun v66 w67 h70 le71 f68 st69=>Z X X X<|zk st69 X X X zfQ X (zfL st69.sub _ _ f68)<|fun r72 w73 h74 le75 st76 q77=> ?_;subst q77;refine Z X X X<|zby X X<|zT (v := (.bool _)) X X X<|Y ?_;refine zag rfl (fun c78 => ?_) (fun c78 => ?_)
  ·refine zf<|zt X X<|Y<|zw<|ze<|zI<|ze<|ze<|zI<|ze<|zeF<|zc zeQ ?_;refine ⟨h74, _, rfl, st76.done, ?_⟩;refine zad ?_;have q0 : zbM c = false := by
    have q := c78;simp at q;simp [zbM, q]
   have q := zcM (p := zbM) hc q0;simp [zbk, q]
  refine zx<|E<|zf<|zR (v := (.map (some mb25))) X X<|U X zaD X zl X X<|have l79:=((le55.t le59).t le71).t le75;M (j := 0) st76.sub (hc48.up l79) X X X zB X<|zeE (i := 0) st76 hM_4 X hN_4 (zjp zcg) Tryz.underlying187 X (k := (c.id)) X (u := true) X<|fun o80 w81 _ e82 f83 nd84 st85=> ?_;subst e82;refine Y<|zf<|U X zaD X zbJ X X<|M (j := 1) st85.sub (hc48.up l79) X X X zcn X<|have l86:=(((le46.t le55).t le59).t le71).t le75;zaK (f39.up l86) X zaO X<|zi X X<|Y<|zF ?_;refine zau ([3, 8] ++ zbY 48 14) (G := Nat × List (Nat × Obj) × Heap) (fun ⟨k2, o_4, h87⟩ => [(3, .int .i64 0), (48, .int .i64 (k2 : Int))]) (fun ⟨k2, o_4, h87⟩ w' => Le h74 h87 ∧ St h w h87 w' [o_4, []] ∧ (OM (fun n : Int => .int .i64 n) (fun b : Bool => .bool b) (zgL m c.id true) o_4 (.map (some mb25))) ∧ (((zgL m c.id true).map (·.1)).Nodup) ∧ (k2 ≤ c.lines.length) ∧ ((c.lines.take k2).all zgO = true)) (fun ⟨k2, o_4, h87⟩ => c.lines.length - k2) ⟨0, o80, h74⟩ ⟨rfl, rfl, trivial⟩ ⟨Le.refl _, st85, (by have q := f83; exact q), (by have q := nd84; exact q), zaX, zaX⟩ ?_;rintro ⟨k2, o_4, h87⟩ _ w90 ⟨le88, st89, hM_4, hN_4, hk2, hl⟩;refine zf<|zaW X X X<|Y<|zm ?_;refine zD rfl (fun c91 => ?_) (fun c91 => ?_)
  ·refine zx<|E<|zm<|zF<|zf ?_;obtain ⟨ln, hln⟩ : ∃ y_, (c.lines)[k2]? = some y_ := zbu zr;obtain ⟨b92, o93, _, he95, hc94, hr_ln⟩ := Sl.elem (f39.up (l86.t le88)) hln;obtain ⟨v96, rfl, f97⟩ := hr_ln;have f97_b := f97.le;refine zS he95 X X (hk := X) (hu := zaO) (hz := zdQ) X<|M (j := 0) st89.sub hc94 X X X zen X<|zah (v := v96) X X<|Y<|zf<|zR (v := v96) X X<|zaK f97 X zW X<|zaf (L := LInt) (xs := [(ln.length : Int)]) (cs := [.int .i64 (ln.length : Int)]) st89 (Enc.cons (L := LInt) (vs := [.int .i64 (ln.length : Int)]) (x := (ln.length : Int)) (h := h87) (X) Enc.nil) X X X zg Tryz.info3 X X X za<|fun v98 w99 h102 le103 f100 st101=>zk st101 X X X zfQ X (zfL st101.sub _ _ f100)<|fun r104 w105 h106 le107 st108 q109=> ?_;subst q109;refine zby X X<|zaa X X ?_;refine zay (d := 57) rfl (fun g110 => ?_) (fun g110 => ?_)
   ·refine zQ 2 X<|zX (v := (.bool _)) X X X<|Y ?_;refine zag rfl (fun c111 => ?_) (fun c111 => ?_)
    ·refine zf<|zt X X<|Y<|zaI<|zhI X<|zo<|zo<|zhI X<|zhI X<|zo<|zo<|zam<|E<|zf<|zi X X<|zt X X<|Y<|zw<|zeF<|zc zeQ ?_;refine ⟨h106, _, rfl, st108.done, ?_⟩;refine zad ?_;have q1 : zgO ln = false := by
      have q := g110;simp at q;simp [zgO, q]
     have q2 := zcM (p := zgO) hln q1;have q0 : zbM c = false := by simp [zbM, q2]
     have q := zcM (p := zbM) hc q0;simp [zbk, q]
    cases c111
   refine Z X X X<|zR (v := v96) X X<|Z X X X ?_;refine zk st108 rfl rfl rfl Tryz.call150 rfl (zfW st108.sub (f97.up (le103.t le107)) (fun x_ => (!zdH (x_))) Tryz.call151 (fun x_ h_ w_ vs_ le_ hs_ hx_ hr_ u_ hu_ => by cases hu_; obtain ⟨hr1_, hr2_⟩ := hr_; cases hr1_; simp only [big] at hr2_; exact c_leaf_Check_1 hs_ _ hr2_)) ?_;intro r112 w113 h114 le115 st116 q117;subst q117;refine zT (v := (.bool _)) X X X<|Y ?_;refine zag rfl (fun c118 => ?_) (fun c118 => ?_)
   ·refine zf<|zt X X<|Y<|zaI<|zhI X<|zo<|zo<|zhI X<|zhI X<|zo<|zo<|zam<|E<|zf<|zi X X<|zt X X<|Y<|zw<|zeF<|zc zeQ ?_;refine ⟨h114, _, rfl, st116.done, ?_⟩;refine zad ?_;have q1 : zgO ln = false := by
     have q := c118;rw [any_not] at q;simp only [zgO, Bool.and_eq_false_iff];right; simpa using q
    have q2 := zcM (p := zgO) hln q1;have q0 : zbM c = false := by simp [zbM, q2]
    have q := zcM (p := zbM) hc q0;simp [zbk, q]
   refine zx<|zL<|E<|zn<|zaF X X zaN X<|zi X X<|Y ?_;have l119 := ((le88.t le103).t le107).t le115;refine ⟨⟨k2 + 1, o_4, h114⟩, ⟨rfl, rfl, trivial⟩, ?_, ⟨l119, st116, ?_, ?_, ?_, ?_⟩, ?_⟩
   ·exact zar
   ·have q := hM_4;exact q
   ·have q := hN_4;exact q
   ·first | omega | (simp; omega)
   ·exact zcw hl hln (by simp_all [zgO])
   show c.lines.length - ((k2 + 1)) < c.lines.length - k2;omega
  refine zaI<|zo<|zo<|zam<|zL<|E<|zn<|zaF X X zaN X<|zi X X<|Y ?_;have HCH : zbM c = true := by
   have q := zdc hl zr;simp_all [zbM]
  have HD : (zbO m c.id).getD false = false := by simp_all
  have l120 := (((((le29.t le46).t le55).t le59).t le71).t le75).t le88;refine ⟨⟨i + 1, zgL m c.id true, o_4, h87⟩, ⟨rfl, rfl, trivial⟩, ?_, ⟨l120, st89.take 1, ?_, ?_, ?_, ?_, ?_, ?_⟩, ?_⟩
  ·exact zar
  ·have q := hM_4;exact q
  ·have q := hN_4;exact q
  ·first | omega | (simp; omega)
  ·exact zcw hA hc HCH
  ·rw [zbf hc, List.map_append, List.nodup_append];refine ⟨hN, by simp, ?_⟩;intro a ha b hb e;simp only [List.map_cons, List.map_nil, List.mem_singleton] at hb;subst hb;subst e;rw [hm] at HD;exact absurd ha (by simpa using HD)
  ·intro k;rw [ziV, zbf hc, List.map_append]
   by_cases e : k = c.id
   ·simp [e]
   ·simp only [if_neg e, hm];simp [e]
  show t.chapters.length - ((i + 1)) < t.chapters.length - i;omega
 refine zaI<|zo<|zo<|zam<|E<|zf<|zi X X<|zt X X<|Y<|zw<|zeF<|zc zeQ ?_;refine ⟨h28, _, rfl, st30.done, ?_⟩;refine zad ?_;have q := zdc hA zr;have q2 : t.chapters.take i = t.chapters := List.take_of_length_le zr;rw [q2] at hN;simp_all [zbk]
end Go.Pk

namespace Go.Pk
open Go Go.RowKit Go.Proofs
theorem zjd {h : Heap} {w : World} (hs : Sub h w) {a_v : Value} {a : (List Str)} (a_f : Sl LStr h a_v a) {b_v : Value} {b : (List Str)} (b_f : Sl LStr h b_v b) : Calls Tryz.prog 46 #[a_v, b_v] w (Rets h w (fun _ _ res_ => res_ = .bool (decide (a = b)))) := by
 refine zN (n := 26) Tryz.func46 X X X<|have st0:=zbl hs;have a_f_b:=a_f.le;have b_f_b:=b_f.le;zf<|zH X X<|Y<|zm<|zf<|zR (v := a_v) X X<|zaK a_f X zW X<|zR (v := b_v) X X<|zaK b_f X zW X<|zcL X X X<|Y ?_;refine zD rfl (fun c1 => ?_) (fun c1 => ?_)
 ·refine zf<|zH X X<|Y<|zw<|ze<|zc Tryz.results46 ?_;refine ⟨h, _, rfl, st0.done, ?_⟩;refine zy ?_;have q : a ≠ b := by
   rintro rfl;simp_all
  simp [q]
 refine zx<|E<|zm<|zf<|zt X X<|Y<|zF ?_;refine zau ([4, 5] ++ zbY 11 15) (G := Nat × Heap) (fun ⟨k, h2⟩ => [(5, .int .i64 (k : Int))]) (fun ⟨k, h2⟩ w' => Le h h2 ∧ St h w h2 w' [] ∧ (k ≤ a.length) ∧ (a.take k = b.take k)) (fun ⟨k, h2⟩ => a.length - k) ⟨0, h⟩ ⟨rfl, trivial⟩ ⟨Le.refl _, st0, zaX, zaX⟩ ?_;rintro ⟨k, h2⟩ _ w5 ⟨le3, st4, hk, he⟩;refine zm<|zf<|zi X X<|zR (v := a_v) X X<|zaK (a_f.up le3) X zW X<|zaW X X X<|Y ?_;refine zD rfl (fun c6 => ?_) (fun c6 => ?_)
 ·refine zx<|E<|zm<|zF<|zm<|zcb Tryz.mixed za (Cls h2 _) (Cls.drew st4)<|zgj (v := a_v) X X<|zdo X X ?_;obtain ⟨x, hx⟩ : ∃ y_, (a)[k]? = some y_ := zbu zr;obtain ⟨b7, o8, _, he10, hc9, hr_x⟩ := Sl.elem (a_f.up le3) hx;obtain ⟨rfl, ls11⟩ := hr_x;simp only [big] at ls11;refine zcd he10 X X (hk := X) (hu := zW) (hz := zak) X<|zG X X (fun _ hC => (zh (j := 0) hC.sub hc9 X X X zaA))<|zgj (v := b_v) X X<|zdo X X ?_;obtain ⟨y, hy⟩ : ∃ y_, (b)[k]? = some y_ := zbu zr;obtain ⟨b12, o13, _, he15, hc14, hr_y⟩ := Sl.elem (b_f.up le3) hy;obtain ⟨rfl, ls16⟩ := hr_y;simp only [big] at ls16;refine zcd he15 X X (hk := X) (hu := zW) (hz := zak) X<|zG X X (fun _ hC => (zh (j := 0) hC.sub hc14 X X X zaA))<|zG X X (fun _ _ => (r_sneq X X))<|zbE ?_;rintro w17 ⟨h18, s19⟩;have st20 := st4.call0 s19;refine E ?_;refine zD rfl (fun c21 => ?_) (fun c21 => ?_)
  ·refine zf<|zH X X<|Y<|zw<|zI<|ze<|ze<|zI<|ze<|zc Tryz.results46 ?_;refine ⟨h18, _, rfl, st20.done, ?_⟩;refine zy ?_;have q := ne_of_get hx hy (by simpa using c21);simp [q]
  refine zx<|zL<|E<|zn<|zi X X<|zaF X X zaN X<|zt X X<|Y ?_;have l22 := le3.trans s19.le;refine ⟨⟨k + 1, h18⟩, ⟨rfl, trivial⟩, ?_, ⟨l22, st20, ?_, ?_⟩, ?_⟩
  ·exact zar
  ·first | omega | (simp; omega)
  ·exact eq_take_succ he hx hy (by simpa using c21)
  show a.length - ((k + 1)) < a.length - k;omega
 refine zaI<|zo<|zo<|zam<|E<|zf<|zH X X<|Y<|zw<|zc Tryz.results46 ?_;refine ⟨h2, _, rfl, st4.done, ?_⟩;refine zy ?_;have q := eq_of_take he zr zr;simp [q]
theorem zdp {h : Heap} {w : World} (hs : Sub h w) {a_v : Value} {a : (List Int)} (a_f : Sl LInt h a_v a) {b_v : Value} {b : (List Int)} (b_f : Sl LInt h b_v b) : Calls Tryz.prog 20 #[a_v, b_v] w (Rets h w (fun _ _ res_ => res_ = .bool (decide (a = b)))) := by
 refine zN (n := 26) Tryz.func20 X X X<|have st0:=zbl hs;have a_f_b:=a_f.le;have b_f_b:=b_f.le;zf<|zH X X<|Y<|zm<|zf<|zR (v := a_v) X X<|zaK a_f X zg X<|zR (v := b_v) X X<|zaK b_f X zg X<|zcL X X X<|Y ?_;refine zD rfl (fun c1 => ?_) (fun c1 => ?_)
 ·refine zf<|zH X X<|Y<|zw<|ze<|zc Tryz.results20 ?_;refine ⟨h, _, rfl, st0.done, ?_⟩;refine zy ?_;have q : a ≠ b := by
   rintro rfl;simp_all
  simp [q]
 refine zx<|E<|zm<|zf<|zt X X<|Y<|zF ?_;refine zau ([4, 5] ++ zbY 11 15) (G := Nat × Heap) (fun ⟨k, h2⟩ => [(5, .int .i64 (k : Int))]) (fun ⟨k, h2⟩ w' => Le h h2 ∧ St h w h2 w' [] ∧ (k ≤ a.length) ∧ (a.take k = b.take k)) (fun ⟨k, h2⟩ => a.length - k) ⟨0, h⟩ ⟨rfl, trivial⟩ ⟨Le.refl _, st0, zaX, zaX⟩ ?_;rintro ⟨k, h2⟩ _ w5 ⟨le3, st4, hk, he⟩;refine zm<|zf<|zi X X<|zR (v := a_v) X X<|zaK (a_f.up le3) X zg X<|zaW X X X<|Y ?_;refine zD rfl (fun c6 => ?_) (fun c6 => ?_)
 ·refine zx<|E<|zm<|zF<|zm<|zcb Tryz.mixed za (Cls h2 _) (Cls.drew st4)<|zgj (v := a_v) X X<|zdo X X ?_;obtain ⟨x, hx⟩ : ∃ y_, (a)[k]? = some y_ := zbu zr;obtain ⟨b7, o8, _, he10, hc9, hr_x⟩ := Sl.elem (a_f.up le3) hx;subst hr_x;refine zcd he10 X X (hk := X) (hu := zg) (hz := zl) X<|zG X X (fun _ hC => (zh (j := 0) hC.sub hc9 X X X zB))<|zgj (v := b_v) X X<|zdo X X ?_;obtain ⟨y, hy⟩ : ∃ y_, (b)[k]? = some y_ := zbu zr;obtain ⟨b11, o12, _, he14, hc13, hr_y⟩ := Sl.elem (b_f.up le3) hy;subst hr_y;refine zcd he14 X X (hk := X) (hu := zg) (hz := zl) X<|zG X X (fun _ hC => (zh (j := 0) hC.sub hc13 X X X zB))<|u_neq X X X<|zbE ?_;rintro w15 ⟨h16, s17⟩;have st18 := st4.call0 s17;refine E ?_;refine zD rfl (fun c19 => ?_) (fun c19 => ?_)
  ·refine zf<|zH X X<|Y<|zw<|zI<|ze<|ze<|zI<|ze<|zc Tryz.results20 ?_;refine ⟨h16, _, rfl, st18.done, ?_⟩;refine zy ?_;have q := ne_of_get hx hy (by simpa using c19);simp [q]
  refine zx<|zL<|E<|zn<|zi X X<|zaF X X zaN X<|zt X X<|Y ?_;have l20 := le3.trans s17.le;refine ⟨⟨k + 1, h16⟩, ⟨rfl, trivial⟩, ?_, ⟨l20, st18, ?_, ?_⟩, ?_⟩
  ·exact zar
  ·first | omega | (simp; omega)
  ·exact eq_take_succ he hx hy (by simpa using c19)
  show a.length - ((k + 1)) < a.length - k;omega
 refine zaI<|zo<|zo<|zam<|E<|zf<|zH X X<|Y<|zw<|zc Tryz.results20 ?_;refine ⟨h2, _, rfl, st4.done, ?_⟩;refine zy ?_;have q := eq_of_take he zr zr;simp [q]
end Go.Pk

namespace Go.Pk
open Go Go.RowKit Go.Proofs
theorem c_leaf_open {h : Heap} {w : World} (hs : Sub h w) {t : Text} {t_v0 : Value} (t_f0 : Sl LChapter h t_v0 t.chapters) : Calls Tryz.prog 91 #[.agg #[t_v0]] w (Rets h w (fun h' _ res_ => ∃ u0, res_ = .tuple #[u0, .int .i64 ((if zbk t then 0 else 10))] ∧ Box LText h' (zbk t) t u0)) := by
 refine zN (n := 13) Tryz.func91 X X X<|have st0:=zbl hs;have t_f0_b:=t_f0.le;zf<|zJ st0 (cs := [t_v0]) X X X<|fun b1 w2 h3 le4 hc5 st6=>zah X X<|zt X X<|Y<|zm<|zf<|zA st6.sub hc5 X zbj zav X X<|zk st6 X X X Tryz.call106 X (c_leaf_Check st6.sub (t := t) (t_f0.up le4))<|fun r7 w8 h9 le10 st11 q12=> ?_;subst q12;refine zt X X<|Y<|zf<|zi X X<|zcL X X X<|Y ?_;refine zD rfl (fun c13 => ?_) (fun c13 => ?_)
 ·refine zf<|zi X X<|zah X X<|zt X X<|Y<|zw<|ze<|zbb Tryz.results91 ?_;refine ⟨h9, _, rfl, st11.done, ?_⟩;refine ⟨_, zdr rfl (zad ?_), Box.nil ?_⟩
  ·simp_all
  simp_all
 refine zx<|E<|zf<|zA st11.sub (hc5.up le10) X zbj zav X X ?_;refine zj rfl rfl (zbq (cs := [t_v0]) (by obtain ⟨_, _, rfl⟩ := Sl.form t_f0; kernel_rfl)) ?_;refine zJ st11 (cs := [t_v0]) X X X<|fun b14 w15 h16 le17 hc18 st19=>v_asP X X<|zt X X<|Y<|zw<|zbb Tryz.results91 ?_;refine ⟨h16, _, rfl, st19.done, ?_⟩;refine ⟨_, zdr rfl (zad ?_), Box.some ?_ hc18 ⟨_, rfl, (t_f0.up ((le4.t le10).t le17))⟩⟩
 ·simp_all
 simp_all
theorem zje {h : Heap} {w : World} (hs : Sub h w) {t_b : Nat} {t : Text} {t_v0 : Value} (t_f0 : Sl LChapter h t_v0 t.chapters) (t_c : Cells h t_b 0 [t_v0]) {p : Place} : Calls Tryz.prog 86 #[.pointer (some ⟨t_b, 0, none⟩), .agg #[.int .i64 p.chapter, .int .i64 p.line, .int .i64 p.word]] w (Rets h w (fun h' _ res_ => ∃ u0, res_ = u0 ∧ Sl LStr h' u0 ((zcZ t p).getD []))) := by
 refine zN (n := 50) Tryz.func86 X X X<|have st0:=zbl hs;have t_f0_b:=t_f0.le;zf<|zJ st0 (cs := [.int .i64 (p.chapter), .int .i64 (p.line), .int .i64 (p.word)]) X X X<|fun b1 w2 h3 le4 hc5 st6=>zcP X X<|Y<|zm<|zm ?_
 rcases Bool.eq_false_or_eq_true ((!(zcQ (([(p.chapter)])) (0) (((t.chapters.length : Int) - 1))))) with g7 | g7
 ·have g7_r := g7;refine zbh (er := ([], [], [], [], 0)) (dsts := [5, 6, 7, 8, 9, 10, 11, 12, 13, 14, 15, 16, 17, 18, 19, 20, 21, 22, 23, 24, 25, 26, 27, 28, 29, 30, 31, 32, 33, 34, 35]) st6 Tryz.mixed<|zd 0 [] X za za X X (fun hD wD τD hL hS hO  => (r_mvP X))<|zd 1 [0] X za za X X (fun hD wD τD hL hS hO _ _ => (zcI X))<|zd 2 [0] X za za X X (fun hD wD τD hL hS hO _ _ => (zC X Tryz.underlying207 X zav X))<|zd 3 [0] X za za X X (fun hD wD τD hL hS hO _ _ => (zC X zaP X zbw X))<|zd 4 [0] X za za X X (fun hD wD τD hL hS hO _ _ => (zh (j := 0) (hL.sub hS) (t_c.up le4) X X X zca))<|zd 5 [0] X za za X X (fun hD wD τD hL hS hO _ _ => (zix (t_f0.up le4) X zaH))<|zd 6 [0] X za za X X (fun hD wD τD hL hS hO _ _ => (r_sub X X zaN))<|zd 7 [] X za za X X (fun hD wD τD hL hS hO  => (zC X zan X zl X))<|zd 8 [0] X za za X X (fun hD wD τD hL hS hO _ _ => (zh (j := 0) (hL.sub hS) hc5 X X X zB)) ?_;refine zaq 9 (.res (fun h' res_ => Sl LInt h' res_ ([(p.chapter)])) (fun _ _ _ hl f => f.up hl)) [0] rfl za za ?_ ?_
  ·intro hD wD τD hL hS hO _ _;have st8 := St.start hS;refine zaf (L := LInt) (xs := [(p.chapter)]) (cs := [.int .i64 (p.chapter)]) st8 (Enc.cons (L := LInt) (vs := [.int .i64 (p.chapter)]) (x := (p.chapter)) (h := hD) (X) Enc.nil) X X X zg Tryz.info3 X X X za<|fun v9 w10 h13 le14 f11 st12=> ?_;exact zq ⟨_, _, rfl, st12, _, rfl, f11⟩
  refine zaq 10 (.det (.bool (zcQ (([(p.chapter)])) (0) (((t.chapters.length : Int) - 1))))) [3, 0] rfl za za ?_ ?_
  ·intro hD wD τD hL hS hO _ _ gv9_0 gf9_0;have st15 := St.start hS;refine zk st15 X X X zfQ X (zfL st15.sub _ _ gf9_0)<|fun r16 w17 h18 le19 st20 q21=> ?_;subst q21;exact zq ⟨_, _, rfl, st20, (), rfl, trivial⟩
  refine zd 11 [0] X za za X X (fun hD wD τD hL hS hO _ _ => (Run.lit (r_not X) g7_r))<|zd 12 [0, 1] X za za X X (fun hD wD τD hL hS hO _ _ _ _ => (zfh X))<|zaL 13 [0] X za za X X X X (fun hD wD τD hL hS hO _ _ => X)<|zaL 14 [0, 1] X za za X X X X (fun hD wD τD hL hS hO _ _ _ _ => X)<|zaL 15 [0, 2] X za za X X X X (fun hD wD τD hL hS hO _ _ _ _ => X)<|zaL 16 [0, 3] X za za X X X X (fun hD wD τD hL hS hO _ _ _ _ => X)<|zaL 17 [0, 4] X za za X X X X (fun hD wD τD hL hS hO _ _ _ _ => X)<|zaL 18 [5] X za za X X X X (fun hD wD τD hL hS hO _ _ => X)<|zaL 19 [0, 6] X za za X X X X (fun hD wD τD hL hS hO _ _ _ _ => X)<|zaL 20 [2, 0, 7] X za za X X X X (fun hD wD τD hL hS hO _ _ _ _ _ _ => X)<|zaL 21 [0, 8] X za za X X X X (fun hD wD τD hL hS hO _ _ _ _ => X)<|zaL 22 [0, 9] X za za X X X X (fun hD wD τD hL hS hO _ _ _ _ => X)<|zaL 23 [0, 10] X za za X X X X (fun hD wD τD hL hS hO _ _ _ _ => X)<|zaL 24 [0, 11] X za za X X X X (fun hD wD τD hL hS hO _ _ _ _ => X)<|zaL 25 [12] X za za X X X X (fun hD wD τD hL hS hO _ _ => X)<|zaL 26 [0, 13] X za za X X X X (fun hD wD τD hL hS hO _ _ _ _ => X)<|zaL 27 [0, 14] X za za X X X X (fun hD wD τD hL hS hO _ _ _ _ => X)<|zaL 28 [3, 0, 15] X za za X X X X (fun hD wD τD hL hS hO _ _ _ _ _ _ => X)<|zaL 29 [0, 16] X za za X X X X (fun hD wD τD hL hS hO _ _ _ _ => X)<|zd 30 [17, 0] X za za X X (fun hD wD τD hL hS hO _ _ _ _ => (zhR (v := (.bool _)) X X))<|zbT X X X X X X ⟨za, X, za, X, za, X, X, za, zcD⟩<|fun hE22 w23 _ le24 st25 _ _ _ _ _ _ _ _ _ _ _ _ _ _ _ _ _ _ gv9_0x26 gf9_0x26 _ _ _ _ _ _ _ _ _ _ _ _ _ _ _ _ _ _ _ _ _ _ _ _ _ _ _ _ _ _ _ _ _ _ _ _ _ _ _ _ _ _=>AllDeps.fin X<|E ?_;refine zag rfl (fun c27 => ?_) (fun c27 => ?_)
  ·refine zf<|zcP X X<|Y<|zw<|ze<|zc Tryz.results86 ?_;refine ⟨hE22, _, rfl, st25.done, ?_⟩;refine ⟨_, rfl, Sl.to (Sl.nil _ _) ?_⟩;have q : zcZ t p = none := line_none1 (by
    have q := g7;simp [zcQ, inB] at q;omega)
   simp [q]
  cases c27
 have g7_r := g7;have q1 : 0 ≤ p.chapter ∧ p.chapter < t.chapters.length := by
  have q := g7;simp [zcQ, inB] at q;omega
 obtain ⟨c, hc⟩ : ∃ y_, (t.chapters)[p.chapter.toNat]? = some y_ := zbu zr;obtain ⟨b28, o29, _, he31, hc30, hr_c⟩ := Sl.elem (t_f0.up le4) hc;obtain ⟨v32, rfl, f33⟩ := hr_c;have f33_b := f33.le;refine zbh (er := ([], [], [], [], 0)) (dsts := [5, 6, 7, 8, 9, 10, 11, 12, 13, 14, 15, 16, 17, 18, 19, 20, 21, 22, 23, 24, 25, 26, 27, 28, 29, 30, 31, 32, 33, 34, 35]) st6 Tryz.mixed<|zd 0 [] X za za X X (fun hD wD τD hL hS hO  => (r_mvP X))<|zd 1 [0] X za za X X (fun hD wD τD hL hS hO _ _ => (zcI X))<|zd 2 [0] X za za X X (fun hD wD τD hL hS hO _ _ => (zC X Tryz.underlying207 X zav X))<|zd 3 [0] X za za X X (fun hD wD τD hL hS hO _ _ => (zC X zaP X zbw X))<|zd 4 [0] X za za X X (fun hD wD τD hL hS hO _ _ => (zh (j := 0) (hL.sub hS) (t_c.up le4) X X X zca))<|zd 5 [0] X za za X X (fun hD wD τD hL hS hO _ _ => (zix (t_f0.up le4) X zaH))<|zd 6 [0] X za za X X (fun hD wD τD hL hS hO _ _ => (r_sub X X zaN))<|zd 7 [] X za za X X (fun hD wD τD hL hS hO  => (zC X zan X zl X))<|zd 8 [0] X za za X X (fun hD wD τD hL hS hO _ _ => (zh (j := 0) (hL.sub hS) hc5 X X X zB)) ?_;refine zaq 9 (.res (fun h' res_ => Sl LInt h' res_ ([(p.chapter)])) (fun _ _ _ hl f => f.up hl)) [0] rfl za za ?_ ?_
 ·intro hD wD τD hL hS hO _ _;have st34 := St.start hS;refine zaf (L := LInt) (xs := [(p.chapter)]) (cs := [.int .i64 (p.chapter)]) st34 (Enc.cons (L := LInt) (vs := [.int .i64 (p.chapter)]) (x := (p.chapter)) (h := hD) (X) Enc.nil) X X X zg Tryz.info3 X X X za<|fun v35 w36 h39 le40 f37 st38=> ?_;exact zq ⟨_, _, rfl, st38, _, rfl, f37⟩
 refine zaq 10 (.det (.bool (zcQ (([(p.chapter)])) (0) (((t.chapters.length : Int) - 1))))) [3, 0] rfl za za ?_ ?_
 ·intro hD wD τD hL hS hO _ _ gv9_0 gf9_0;have st41 := St.start hS;refine zk st41 X X X zfQ X (zfL st41.sub _ _ gf9_0)<|fun r42 w43 h44 le45 st46 q47=> ?_;subst q47;exact zq ⟨_, _, rfl, st46, (), rfl, trivial⟩
 refine zd 11 [0] X za za X X (fun hD wD τD hL hS hO _ _ => (Run.lit (r_not X) g7_r))<|zd 12 [0, 1] X za za X X (fun hD wD τD hL hS hO _ _ _ _ => (zfh X))<|zba 13 [0] X za za X X X (fun hD wD τD hL hS hO _ _ => ⟨rfl, (r_mvP X)⟩)<|zba 14 [0, 1] X za za X X X (fun hD wD τD hL hS hO _ _ _ _ => ⟨rfl, (zcI X)⟩)<|zba 15 [0, 2] X za za X X X (fun hD wD τD hL hS hO _ _ _ _ => ⟨rfl, (zC X Tryz.underlying207 X zav X)⟩)<|zba 16 [0, 3] X za za X X X (fun hD wD τD hL hS hO _ _ _ _ => ⟨rfl, (zC X zaP X zbw X)⟩)<|zba 17 [0, 4] X za za X X X (fun hD wD τD hL hS hO _ _ _ _ => ⟨rfl, (zh (j := 0) (hL.sub hS) (t_c.up le4) X X X zca)⟩)<|zba 18 [5] X za za X X X (fun hD wD τD hL hS hO _ _ => ⟨rfl, (zC X zan X zl X)⟩)<|zba 19 [0, 6] X za za X X X (fun hD wD τD hL hS hO _ _ _ _ => ⟨rfl, (zh (j := 0) (hL.sub hS) hc5 X X X zB)⟩) ?_;refine zba 20 [2, 0, 7] rfl za za rfl rfl rfl (fun hD wD τD hL hS hO _ _ _ _ _ _ => ⟨rfl, (zas he31 rfl rfl (hk := (show _ = ((p.chapter.toNat : Nat) : Int) by omega)) (hu := zaH) (hz := zbA))⟩) ?_;refine zba 21 [0, 8] X za za X X X (fun hD wD τD hL hS hO _ _ _ _ => ⟨rfl, (zC X zaD X zbJ X)⟩)<|zba 22 [0, 9] X za za X X X (fun hD wD τD hL hS hO _ _ _ _ => ⟨rfl, (zh (j := 1) (hL.sub hS) hc30 X X X zcn)⟩)<|zba 23 [0, 10] X za za X X X (fun hD wD τD hL hS hO _ _ _ _ => ⟨rfl, (zix f33 X zaO)⟩)<|zba 24 [0, 11] X za za X X X (fun hD wD τD hL hS hO _ _ _ _ => ⟨rfl, (r_sub X X zaN)⟩)<|zba 25 [12] X za za X X X (fun hD wD τD hL hS hO _ _ => ⟨rfl, (zC X zan X zl X)⟩)<|zba 26 [0, 13] X za za X X X (fun hD wD τD hL hS hO _ _ _ _ => ⟨rfl, (zh (j := 1) (hL.sub hS) hc5 X X X zB)⟩) ?_;refine zaq 27 (.res (fun h' res_ => Sl LInt h' res_ ([(p.line)])) (fun _ _ _ hl f => f.up hl)) [0, 14] rfl za za ?_ ?_
 ·intro hD wD τD hL hS hO _ _ _ _;have st48 := St.start hS;refine Z X X X<|zaf (L := LInt) (xs := [(p.line)]) (cs := [.int .i64 (p.line)]) st48 (Enc.cons (L := LInt) (vs := [.int .i64 (p.line)]) (x := (p.line)) (h := hD) (X) Enc.nil) X X X zg Tryz.info3 X X X za<|fun v49 w50 h53 le54 f51 st52=> ?_;exact zq ⟨_, _, rfl, st52, _, rfl, f51⟩
 refine zaq 28 (.det (.bool (zcQ (([(p.line)])) (0) (((c.lines.length : Int) - 1))))) [3, 0, 15] rfl za za ?_ ?_
 ·intro hD wD τD hL hS hO _ _ gv27_0 gf27_0 _ _;have st55 := St.start hS;refine Z X X X<|zk st55 X X X zfQ X (zfL st55.sub _ _ gf27_0)<|fun r56 w57 h58 le59 st60 q61=> ?_;subst q61;exact zq ⟨_, _, rfl, st60, (), rfl, trivial⟩
 refine zba 29 [0, 16] X za za X X X (fun hD wD τD hL hS hO _ _ _ _ => ⟨rfl, (r_not X)⟩)<|zd 30 [17, 0] X za za X X (fun hD wD τD hL hS hO _ _ _ _ => (zgg (v := (.bool _)) X X))<|zbT X X X X X X ⟨za, X, za, X, za, X, X, za, zcD⟩<|fun hE62 w63 _ le64 st65 _ _ _ _ _ _ _ _ _ _ _ _ _ _ _ _ _ _ gv9_0x66 gf9_0x66 _ _ _ _ _ _ _ _ _ _ _ _ _ _ _ _ _ _ _ _ _ _ _ _ _ _ _ _ _ _ _ _ _ _ gv27_0x66 gf27_0x66 _ _ _ _ _ _=>AllDeps.fin X<|E ?_;refine zag rfl (fun c67 => ?_) (fun c67 => ?_)
 ·refine zf<|zcP X X<|Y<|zw<|ze<|zc Tryz.results86 ?_;refine ⟨hE62, _, rfl, st65.done, ?_⟩;refine ⟨_, rfl, Sl.to (Sl.nil _ _) ?_⟩;have q : zcZ t p = none := line_none2 hc (by
   have q := c67;simp [zcQ, inB] at q;omega)
  simp [q]
 refine zx<|E<|zm ?_;have q1 : 0 ≤ p.chapter ∧ p.chapter < t.chapters.length ∧ 0 ≤ p.line ∧ p.line < c.lines.length := by
  have q := g7;have q0 := c67;simp [zcQ, inB] at q q0;omega
 refine zcb Tryz.mixed za (Cls hE62 _) (Cls.drew st65)<|u_mvP X X<|zG X X (fun _ _ => (zcI X))<|zZ X Tryz.underlying207 X zav X X<|zZ X zaP X zbw X X<|have l68:=le4.t le64;zG X X (fun _ hC => (zh (j := 0) hC.sub (t_c.up l68) X X X zca))<|zZ X zan X zl X X<|zG X X (fun _ hC => (zh (j := 0) hC.sub (hc5.up le64) X X X zB)) ?_;refine zG rfl rfl (fun _ _ => (zas he31 rfl rfl (hk := (show _ = ((p.chapter.toNat : Nat) : Int) by omega)) (hu := zaH) (hz := zbA))) ?_;refine zZ X zaD X zbJ X X<|zG X X (fun _ hC => (zh (j := 1) hC.sub (hc30.up le64) X X X zcn))<|zZ X zan X zl X X<|zG X X (fun _ hC => (zh (j := 1) hC.sub (hc5.up le64) X X X zB)) ?_;obtain ⟨ln, hln⟩ : ∃ y_, (c.lines)[p.line.toNat]? = some y_ := zbu zr;obtain ⟨b69, o70, _, he72, hc71, hr_ln⟩ := Sl.elem (f33.up le64) hln;obtain ⟨v73, rfl, f74⟩ := hr_ln;have f74_b := f74.le;refine zG rfl rfl (fun _ _ => (zas he72 rfl rfl (hk := (show _ = ((p.line.toNat : Nat) : Int) by omega)) (hu := zaO) (hz := zdQ))) ?_;refine zG X X (fun _ hC => (zh (j := 0) hC.sub hc71 X X X zen))<|u_assign (v := v73) X X<|zbE ?_;rintro w75 ⟨h76, s77⟩;have st78 := st65.call0 s77;refine E<|zw<|zc Tryz.results86 ?_;refine ⟨h76, _, rfl, st78.done, ?_⟩;refine ⟨_, rfl, Sl.to (f74.up s77.le) ?_⟩;rw [line_some hc q1.1 hln q1.2.2.1]; rfl
theorem c_leaf_book_has {h : Heap} {w : World} (hs : Sub h w) {t_b : Nat} {t : Text} {t_v0 : Value} (t_f0 : Sl LChapter h t_v0 t.chapters) (t_c : Cells h t_b 0 [t_v0]) {p : Place} : Calls Tryz.prog 124 #[.pointer (some ⟨t_b, 0, none⟩), .agg #[.int .i64 p.chapter, .int .i64 p.line, .int .i64 p.word]] w (Rets h w (fun _ _ res_ => res_ = .bool (zbG t p))) := by
 refine zN (n := 14) Tryz.func124 X X X<|have st0:=zbl hs;have t_f0_b:=t_f0.le;zf<|zJ st0 (cs := [.int .i64 (p.chapter), .int .i64 (p.line), .int .i64 (p.word)]) X X X<|fun b1 w2 h3 le4 hc5 st6=>zH X X<|Y<|zm<|have qb:=line_le t_f0 p;zbh (er := ([], [], [], [], 0)) (dsts := [5, 6, 7, 8, 9, 10, 11, 12, 13, 4]) st6 Tryz.mixed<|zd 0 [] X za za X X (fun hD wD τD hL hS hO  => (r_mvP X))<|zd 1 [] X za za X X (fun hD wD τD hL hS hO  => (zaG (hL.sub hS) hc5 X zaR zY X)) ?_;refine zaq 2 (.res (fun h' res_ => Sl LStr h' res_ ((zcZ (t) (p)).getD [])) (fun _ _ _ hl f => f.up hl)) [1, 0] rfl za za ?_ ?_
 ·intro hD wD τD hL hS hO _ _ _ _;have st7 := St.start hS;refine zk st7 X X X Tryz.call86 X (zje st7.sub (t := t) (t_f0.up (le4.trans hL)) (t_c.up (le4.trans hL)) (p := p))<|fun r8 w9 h10 le11 st12 q13=> ?_;obtain ⟨v14, e16, f15⟩ := q13;rw [← e16] at f15;have f15_b := f15.le;exact zq ⟨_, _, rfl, st12, _, rfl, f15⟩
 refine zaq 3 (.det (.int .i64 (((zcZ (t) (p)).getD []).length : Int))) [0] rfl za za ?_ ?_
 ·intro hD wD τD hL hS hO gv2_0 gf2_0;have st17 := St.start hS;refine zaK gf2_0 X zW X ?_;exact zq ⟨_, _, rfl, st17, (), rfl, trivial⟩
 refine zd 4 [0] X za za X X (fun hD wD τD hL hS hO _ _ => (r_sub X X zaN))<|zd 5 [] X za za X X (fun hD wD τD hL hS hO  => (zC X zan X zl X))<|zd 6 [0] X za za X X (fun hD wD τD hL hS hO _ _ => (zh (j := 2) (hL.sub hS) hc5 X X X zB)) ?_;refine zaq 7 (.res (fun h' res_ => Sl LInt h' res_ ([(p.word)])) (fun _ _ _ hl f => f.up hl)) [0] rfl za za ?_ ?_
 ·intro hD wD τD hL hS hO _ _;have st18 := St.start hS;refine zaf (L := LInt) (xs := [(p.word)]) (cs := [.int .i64 (p.word)]) st18 (Enc.cons (L := LInt) (vs := [.int .i64 (p.word)]) (x := (p.word)) (h := hD) (X) Enc.nil) X X X zg Tryz.info3 X X X za<|fun v19 w20 h23 le24 f21 st22=> ?_;exact zq ⟨_, _, rfl, st22, _, rfl, f21⟩
 refine zaq 8 (.det (.bool (zcQ (([(p.word)])) (0) (((((zcZ (t) (p)).getD []).length : Int) - 1))))) [3, 0, 5] rfl za za ?_ ?_
 ·intro hD wD τD hL hS hO _ _ gv7_0 gf7_0 gv2_0 gf2_0;have st25 := St.start hS;refine zk st25 X X X zfQ X (zfL st25.sub _ _ gf7_0)<|fun r26 w27 h28 le29 st30 q31=> ?_;subst q31;exact zq ⟨_, _, rfl, st30, (), rfl, trivial⟩
 refine zd 9 [8, 7, 6, 5, 4, 3, 2, 1, 0] X za za X X (fun hD wD τD hL hS hO _ _ _ _ gv2_0 gf2_0 _ _ _ _ _ _ _ _ gv7_0 gf7_0 _ _ => (r_asB X))<|zbT X X X X X X ⟨za, X, za, X, za, X, X, za, zcD⟩<|fun hE32 w33 _ le34 st35 _ _ _ _ gv2_0x36 gf2_0x36 _ _ _ _ _ _ _ _ gv7_0x36 gf7_0x36 _ _ _ _=>AllDeps.fin X<|E<|zw<|zc Tryz.results124 ?_;refine ⟨hE32, _, rfl, st35.done, ?_⟩;refine zy ?_;rw [place_eq];cases hq : zcZ t p with
 | none => simp [zcQ, inB]; omega
 | some l => simp [zcQ]
theorem c_leaf_placed {h : Heap} {w : World} (hs : Sub h w) {t : Text} {t_v0 : Value} (t_f0 : Sl LChapter h t_v0 t.chapters) {p : Place} : Calls Tryz.prog 85 #[.agg #[t_v0], .agg #[.int .i64 p.chapter, .int .i64 p.line, .int .i64 p.word]] w (Rets h w (fun h' _ res_ => ∃ u0, res_ = .tuple #[u0, .int .i64 ((if zbk t && zbG t p then 0 else if zbk t then 12 else 10))] ∧ Box LText h' (zbk t && zbG t p) t u0)) := by
 refine zN (n := 21) Tryz.func85 X X X<|have st0:=zbl hs;have t_f0_b:=t_f0.le;zf<|zJ st0 (cs := [t_v0]) X X X<|fun b1 w2 h3 le4 hc5 st6=>zJ st6 (cs := [.int .i64 (p.chapter), .int .i64 (p.line), .int .i64 (p.word)]) X X X<|fun b7 w8 h9 le10 hc11 st12=>zah X X<|zt X X<|Y<|zf<|zA st12.sub (hc5.up le10) X zbj zav X X<|have l13:=le4.t le10;zk st12 X X X Tryz.call91 X (c_leaf_open st12.sub (t := t) (t_f0.up l13))<|fun r14 w15 h16 le17 st18 q19=> ?_
 rcases Bool.eq_false_or_eq_true (zbk (t)) with hb20 | hb20
 ·simp only [hb20, if_true, if_false, Bool.false_eq_true, reduceIte] at q19;obtain ⟨v21, rfl, f22⟩ := q19;obtain ⟨b23, vs24, rfl, hc25, hr26⟩ := f22;obtain ⟨v27, rfl, f28⟩ := hr26;have f28_b := f28.le;refine zcR X X<|zU (v := (.pointer (some _))) X X X<|zU (v := (.int _ _)) X X X<|v_asP X X<|zt X X<|Y<|zm<|zf<|zi X X<|zcL X X X<|Y ?_;refine zag rfl (fun c29 => ?_) (fun c29 => ?_)
  ·exact absurd c29 (by decide)
  refine zx<|E<|zm<|zf<|v_mvP X X<|zA st18.sub (hc11.up le17) X zaR zY X X<|zk st18 X X X Tryz.call124 X (c_leaf_book_has st18.sub (t := (t)) f28 hc25 (p := p))<|fun r30 w31 h32 le33 st34 q35=> ?_;subst q35;refine zby X X<|Y ?_;refine zag rfl (fun c36 => ?_) (fun c36 => ?_)
  ·refine zf<|zah X X<|zt X X<|Y<|zw<|ze<|zbb Tryz.results85 ?_;refine ⟨h32, _, rfl, st34.done, ?_⟩;refine ⟨_, zdr rfl (zad ?_), Box.nil ?_⟩
   ·simp_all
   simp_all
  refine zx<|E<|zf<|v_mvP X X<|v_asP X X<|zt X X<|Y<|zw<|zbb Tryz.results85 ?_;refine ⟨h32, _, rfl, st34.done, ?_⟩;refine ⟨_, zdr rfl (zad ?_), Box.some ?_ (hc25.up le33) ⟨_, rfl, (f28.up le33)⟩⟩
  ·simp_all
  simp_all
 simp only [hb20, if_true, if_false, Bool.false_eq_true, reduceIte] at q19;obtain ⟨v37, rfl, f38⟩ := q19;subst f38;refine zcR X X<|zU (v := (.pointer none)) X X X<|zU (v := (.int _ _)) X X X<|zah X X<|zt X X<|Y<|zm<|zf<|zi X X<|zcL X X X<|Y ?_;refine zag rfl (fun c39 => ?_) (fun c39 => ?_)
 ·refine zf<|zi X X<|zah X X<|zt X X<|Y<|zw<|ze<|zbb Tryz.results85 ?_;refine ⟨h16, _, rfl, st18.done, ?_⟩;refine ⟨_, zdr rfl (zad ?_), Box.nil ?_⟩
  ·simp_all
  simp_all
 exact absurd c39 (by decide)
theorem zhm {h : Heap} {w : World} (hs : Sub h w) {t : Text} {t_v0 : Value} (t_f0 : Sl LChapter h t_v0 t.chapters) {p : Place} : Calls Tryz.prog 37 #[.agg #[t_v0], .agg #[.int .i64 p.chapter, .int .i64 p.line, .int .i64 p.word]] w (Rets h w (fun _ _ res_ => res_ = .tuple #[zP ((if zbk t then (zhd t p).getD [] else [])), .int .i64 ((if zbk t && zbG t p then 0 else if zbk t then 12 else 10))])) := by
 refine zN (n := 24) Tryz.func37 X X X<|have st0:=zbl hs;have t_f0_b:=t_f0.le;zf<|zJ st0 (cs := [t_v0]) X X X<|fun b1 w2 h3 le4 hc5 st6=>zJ st6 (cs := [.int .i64 (p.chapter), .int .i64 (p.line), .int .i64 (p.word)]) X X X<|fun b7 w8 h9 le10 hc11 st12=>zfS X X<|zt X X<|Y<|zf<|zA st12.sub (hc5.up le10) X zbj zav X X<|zA st12.sub hc11 X zaR zY X X<|have l13:=le4.t le10;zk st12 X X X Tryz.call85 X (c_leaf_placed st12.sub (t := t) (t_f0.up l13) (p := p))<|fun r14 w15 h16 le17 st18 q19=> ?_
 rcases Bool.eq_false_or_eq_true (zbk (t) && zbG (t) (p)) with hb20 | hb20
 ·simp only [hb20, if_true, if_false, Bool.false_eq_true, reduceIte] at q19;obtain ⟨v21, rfl, f22⟩ := q19;obtain ⟨b23, vs24, rfl, hc25, hr26⟩ := f22;obtain ⟨v27, rfl, f28⟩ := hr26;have f28_b := f28.le;refine zcR X X<|zU (v := (.pointer (some _))) X X X<|zU (v := (.int _ _)) X X X<|v_asP X X<|zt X X<|Y<|zm<|zf<|zi X X<|zcL X X X<|Y ?_;refine zag rfl (fun c29 => ?_) (fun c29 => ?_)
  ·exact absurd c29 (by decide)
  refine zx<|E<|zm ?_;have q1 : zbG t p = true := by simp_all
  have q2 := place_eq t p;have q3 : 0 ≤ p.word ∧ p.word < (((zcZ t p).getD []).length : Int) := by
   rw [q1] at q2;simp [inB] at q2;omega
  obtain ⟨wd, hwd⟩ : ∃ y_, (((zcZ ((t)) (p)).getD []))[p.word.toNat]? = some y_ := zbu zr;refine zbh (er := ([], [], [], [], 0)) (dsts := [17, 18, 19, 20, 21, 22, 23, 4, 5]) st18 Tryz.mixed<|zd 0 [] X za za X X (fun hD wD τD hL hS hO  => (r_mvP X))<|zd 1 [] X za za X X (fun hD wD τD hL hS hO  => (zaG (hL.sub hS) (hc11.up le17) X zaR zY X)) ?_;refine zaq 2 (.res (fun h' res_ => Sl LStr h' res_ ((zcZ ((t)) (p)).getD [])) (fun _ _ _ hl f => f.up hl)) [1, 0] rfl za za ?_ ?_
  ·intro hD wD τD hL hS hO _ _ _ _;have st30 := St.start hS;refine zk st30 X X X Tryz.call86 X (zje st30.sub (t := (t)) (f28.up hL) (hc25.up hL) (p := p))<|fun r31 w32 h33 le34 st35 q36=> ?_;obtain ⟨v37, e39, f38⟩ := q36;rw [← e39] at f38;have f38_b := f38.le;exact zq ⟨_, _, rfl, st35, _, rfl, f38⟩
  refine zd 3 [] X za za X X (fun hD wD τD hL hS hO  => (zC X zan X zl X))<|zd 4 [0] X za za X X (fun hD wD τD hL hS hO _ _ => (zh (j := 2) (hL.sub hS) (hc11.up le17) X X X zB)) ?_;refine zaq 5 (.res (fun h' res_ => ∃ b o, res_ = .pointer (some ⟨b, o, none⟩) ∧ Cells h' b o [zP wd]) (by rintro _ _ _ hl ⟨b, o, e, c⟩; exact ⟨b, o, e, c.up hl⟩)) [2, 0] rfl za za ?_ ?_
  ·intro hD wD τD hL hS hO gv2_0 gf2_0 _ _;have st40 := St.start hS;obtain ⟨b_, o_, _, he_, hc_, hr_⟩ := Sl.elem gf2_0 hwd;obtain ⟨rfl, ls41⟩ := hr_;simp only [big] at ls41;refine zj rfl rfl (zas he_ rfl rfl (hk := (show _ = ((p.word.toNat : Nat) : Int) by omega)) (hu := zW) (hz := zak)) ?_;exact zq ⟨_, _, rfl, st40, _, rfl, _, _, rfl, hc_⟩
  refine zaq 6 (.det (zP wd)) [0] rfl za za ?_ ?_
  ·intro hD wD τD hL hS hO gv5_ gf5_;obtain ⟨gb5, go5, rfl, gc5⟩ := gf5_;have st42 := St.start hS;refine M (j := 0) hS gc5 X X X zaA X ?_;exact zq ⟨_, _, rfl, st42, (), rfl, trivial⟩
  refine zd 7 [6, 5, 4, 3, 2, 1, 0] X za za X X (fun hD wD τD hL hS hO _ _ _ _ gv2_0 gf2_0 _ _ _ _ gv5_ gf5_ _ _ => (r_asS X))<|zd 8 [7, 6, 5, 4, 3, 2, 1, 0] X za za X X (fun hD wD τD hL hS hO _ _ _ _ gv2_0 gf2_0 _ _ _ _ gv5_ gf5_ _ _ _ _ => (r_asI X))<|zbT X X X X X X ⟨za, X, za, X, za, X, X, za, zcD⟩<|fun hE43 w44 _ le45 st46 _ _ _ _ gv2_0x47 gf2_0x47 _ _ _ _ gv5_x47 gf5_x47 _ _ _ _ _ _=> ?_;obtain ⟨gb5x47, go5x47, rfl, gc5x47⟩ := gf5_x47;refine AllDeps.fin X<|E<|zw<|zbb Tryz.results37 ?_;refine ⟨hE43, _, rfl, st46.done, ?_⟩;refine zdr (str_eq ?_) (zad ?_)
  all_goals have qq : zbk t = true ∧ zbG t p = true := by simp_all
  ·simp [qq.1, word_some qq.2 hwd]
  simp [qq.1, qq.2]
 simp only [hb20, if_true, if_false, Bool.false_eq_true, reduceIte] at q19;obtain ⟨v48, rfl, f49⟩ := q19;subst f49;refine zcR X X<|zU (v := (.pointer none)) X X X<|zU (v := (.int _ _)) X X X<|zah X X<|zt X X<|Y<|zm<|zf<|zi X X<|zcL X X X<|Y ?_;refine zD rfl (fun c50 => ?_) (fun c50 => ?_)
 ·refine zf<|zi X X<|zfS X X<|zt X X<|Y<|zw<|ze<|zbb Tryz.results37 ?_;refine ⟨h16, _, rfl, st18.done, ?_⟩;refine zdr (str_eq ?_) (zad ?_)
  all_goals have qq : zbk t = true → zbG t p = false := by simp_all
  ·cases q0 : zbk t
   ·rfl
   ·simp [word_none (qq q0)]
  cases q0 : zbk t
  ·rfl
  simp [qq q0]
 exfalso;revert c50;split <;> simp
end Go.Pk

namespace Go.Pk
open Go Go.RowKit Go.Proofs
theorem c_strings_indexFunc {s : Str} (hlen : s.length ≤ 281474976710656) {g : FuncId} {caps : List Value} (p : Int → Bool) (hp : ∀ x : Int, 128 ≤ x → p x = true)
  (hf : ∀ (x : Int) h w, Sub h w → Calls Tryz.prog g (.int .i32 x :: caps).toArray w (Rets h w fun _ _ r => r = .bool (p x)))
  (hg : ∀ a w, (callFunc g a).run Tryz.prog w = .ok (.enter g a) w) {h : Heap} {w : World} (hs : Sub h w) :
  Calls Tryz.prog 211 #[zP s, .func (.func g) #[] caps.toArray, .bool true] w (Rets h w fun _ _ r => ∃ k : Int, r = .int .i64 k ∧ (0 ≤ k ↔ (s.any fun c => p (c.toNat : Int)) = true)) := by
 refine zN (n := 21) Tryz.func211 X X X<|have st0:=zbl hs;zf<|zt X X<|Y<|zm<|zf<|zcs X X<|OpsL.rangeS st0 X zax X<|fun b w1 st1=>Y<|zF ?_;refine zau ([7, 8] ++ zbY 11 10 ++ [6]) (G := Nat × Heap) (fun ⟨k, _⟩ => []) (fun ⟨k, h'⟩ w' => Le h h' ∧ St h w h' w' [[(b, .stringIter ⟨s.toArray⟩ k)]] ∧ k ≤ s.length ∧ ∀ j c, j < k → s[j]? = some c → p (c.toNat : Int) = false) (fun ⟨k, _⟩ => s.length - k) ⟨0, h⟩ trivial ⟨Le.refl _, st1, by omega, by intros; omega⟩ ?_;rintro ⟨k, h2⟩ _ w2 ⟨le2, st2, hk, hall⟩
 rcases Nat.lt_or_ge k s.length with hlt | hge
 ·obtain ⟨c, hc⟩ : ∃ c, s[k]? = some c := ⟨_, List.getElem?_eq_getElem hlt⟩;refine zf<|OpsL.nextS st2 (k := 0) X X hc X<|fun w3 st3=> ?_;generalize hR : Utf8.decode ⟨s.toArray⟩ k = R at st3;refine zU (v := .bool _) X X X<|Y<|zm ?_;refine zag rfl (fun c1 => ?_) (fun c1 => ?_)
  ·refine zx ?_;refine E<|zF<|zf<|zU (v := .int _ _) X X X<|zU (v := .int _ _) X X X<|zt X X<|zt X X<|Y<|zf<|zhv X X<|zi X X ?_;refine zaE rfl rfl (zce (fs := []) (cs := caps) rfl rfl hg rfl) ((hf (R.1 : Int) h2 w3 st3.sub).mono ?_);rintro e w4 ⟨h4, r4, rfl, s4, rfl⟩;refine ⟨_, rfl, ?_⟩;have st4 := st3.call0 s4;refine zaa X X<|zj X X (r_beql X X zbn)<|Y ?_;refine zag rfl (fun c2 => ?_) (fun c2 => ?_)
   ·have c3 : p (R.1 : Int) = true := by simpa using c2
    refine zf<|zi X X<|zt X X<|Y<|zw ?_
    repeat (first | refine zI ?_ | refine ze ?_)
    refine zc Tryz.results211 ?_;refine ⟨h4, _, rfl, st4.done, (k : Int), rfl, ⟨fun _ => ?_, fun _ => by omega⟩⟩;rw [List.any_eq_true];refine ⟨c, List.mem_of_getElem? hc, ?_⟩
    by_cases hl : c.toNat < 128
    ·rw [decode_low hc hl] at hR; subst hR; exact c3
    ·exact hp _ zr
   ·have c3 : p (R.1 : Int) = false := by simpa using c2
    have hl : c.toNat < 128 := by
     rcases Nat.lt_or_ge c.toNat 128 with h5 | h5
     ·exact h5
     ·have q := decode_high hc zr;rw [hR] at q;rw [hp _ zr] at c3; cases c3
    rw [decode_low hc hl] at hR;subst hR;refine zx<|zL ?_;refine ⟨⟨k + 1, h4⟩, trivial, ?_, ⟨le2.trans s4.le, st4, by omega, ?_⟩, ?_⟩
    ·exact zar
    ·intro j d hj hd
     rcases Nat.lt_or_ge j k with h3 | h3
     ·exact hall j d h3 hd
     ·obtain rfl : j = k := by omega
      rw [hc] at hd; cases hd;exact c3
    ·show s.length - (k + 1) < s.length - k;omega
  ·cases c1
 ·refine zm ?_;refine zn<|OpsL.nextE st2 (k := 0) X X hge X<|zU (v := .bool _) X X X<|Y<|zm ?_;refine zag rfl (fun c1 => ?_) (fun c1 => ?_)
  ·cases c1
  ·refine zaI ?_;refine zo<|zo<|zam<|E<|zf<|zt X X<|Y<|zw<|zc Tryz.results211 ?_;refine ⟨h2, _, rfl, st2.done, _, rfl, ⟨fun q => absurd q (by decide), fun q => ?_⟩⟩;rw [List.any_eq_true] at q;obtain ⟨c, hc, hpc⟩ := q;obtain ⟨j, hj⟩ := List.mem_iff_getElem?.1 hc;have hjl := (List.getElem?_eq_some_iff.1 hj).1;rw [hall j c zr hj] at hpc; cases hpc
theorem c_strings_IndexFunc {s : Str} (hlen : s.length ≤ 281474976710656) {g : FuncId} {caps : List Value} (p : Int → Bool) (hp : ∀ x : Int, 128 ≤ x → p x = true)
  (hf : ∀ (x : Int) h w, Sub h w → Calls Tryz.prog g (.int .i32 x :: caps).toArray w (Rets h w fun _ _ r => r = .bool (p x)))
  (hg : ∀ a w, (callFunc g a).run Tryz.prog w = .ok (.enter g a) w) {h : Heap} {w : World} (hs : Sub h w) :
  Calls Tryz.prog 198 #[zP s, .func (.func g) #[] caps.toArray] w (Rets h w fun _ _ r => ∃ k : Int, r = .int .i64 k ∧ (0 ≤ k ↔ (s.any fun c => p (c.toNat : Int)) = true)) := by
 refine zN (n := 8) Tryz.func198 X X X<|have st0:=zbl hs;zf<|zt X X<|Y<|zf<|zcs X X<|zhv X X<|zk st0 X X X Tryz.call211 X (c_strings_indexFunc hlen p hp hf hg st0.sub) ?_;rintro v w1 h1 le1 st1 ⟨k, rfl, hk⟩;refine zt X X<|Y<|zw<|zc Tryz.results198 ?_;exact ⟨h1, _, rfl, st1.done, k, rfl, hk⟩
theorem zjt {s : Str} (hlen : s.length ≤ 281474976710656) {g : FuncId} {caps : List Value} (p : Int → Bool) (hp : ∀ x : Int, 128 ≤ x → p x = true)
  (hf : ∀ (x : Int) h w, Sub h w → Calls Tryz.prog g (.int .i32 x :: caps).toArray w (Rets h w fun _ _ r => r = .bool (p x)))
  (hg : ∀ a w, (callFunc g a).run Tryz.prog w = .ok (.enter g a) w) {h : Heap} {w : World} (hs : Sub h w) :
  Calls Tryz.prog 155 #[zP s, .func (.func g) #[] caps.toArray] w (Rets h w fun _ _ r => r = .bool (s.any fun c => p (c.toNat : Int))) := by
 refine zN (n := 9) Tryz.func155 X X X<|have st0:=zbl hs;zf<|zH X X<|Y<|zf<|zcs X X<|zhv X X<|zk st0 X X X Tryz.call198 X (c_strings_IndexFunc hlen p hp hf hg st0.sub) ?_;rintro v w1 h1 le1 st1 ⟨k, rfl, hk⟩;refine zgY X X X<|zH X X<|Y<|zw<|zc Tryz.results155 ?_;refine ⟨h1, _, rfl, st1.done, zy ?_⟩;rw [Bool.eq_iff_iff, decide_eq_true_eq];exact hk
end Go.Pk

namespace Go.Pk
open Go Go.RowKit Go.Proofs
theorem c_stem_letters_1 {h : Heap} {w : World} (hs : Sub h w) (c : Int) : Calls Tryz.prog 156 #[.int .i32 c] w (Rets h w (fun _ _ res_ => res_ = .bool ((decide (c < 97) || decide (122 < c))))) := by
 refine zN (n := 9) Tryz.func156 X X X<|have st0:=zbl hs;zf<|zH X X<|Y<|zf<|zi X X<|zaW X X X<|zaa X X ?_;refine zae (d := 5) rfl (fun g1 => ?_) (fun g1 => ?_)
 ·refine zQ 2 X<|zX (v := (.bool _)) X X X<|zH X X<|Y<|zw<|zc Tryz.results156 ?_;refine ⟨h, _, rfl, st0.done, ?_⟩;refine zy ?_
  first | (simp_all; done) | (simp_all; omega)
 refine Z X X X<|zi X X<|Z X X X<|zdy X X X<|zT (v := (.bool _)) X X X<|zH X X<|Y<|zw<|zc Tryz.results156 ?_;refine ⟨h, _, rfl, st0.done, ?_⟩;refine zy ?_
 first | (simp_all; done) | (simp_all; omega)
theorem zfy {h : Heap} {w : World} (hs : Sub h w) (s : Str) (s_le : s.length ≤ 281474976710656) (lo : Int) : Calls Tryz.prog 109 #[zP s, .int .i64 lo] w (Rets h w (fun _ _ res_ => res_ = .bool (zcN s lo))) := by
 refine zN (n := 15) Tryz.func109 X X X<|have st0:=zbl hs;zf<|zH X X<|Y<|zf<|zi X X<|zcs X X<|zcA X zax X<|zaf (L := LInt) (xs := [(s.length : Int)]) (cs := [.int .i64 (s.length : Int)]) st0 (Enc.cons (L := LInt) (vs := [.int .i64 (s.length : Int)]) (x := (s.length : Int)) (h := h) (X) Enc.nil) X X X zg Tryz.info3 X X X za<|fun v1 w2 h5 le6 f3 st4=>zk st4 X X X Tryz.call110 X (zjb st4.sub _ _ f3)<|fun r7 w8 h9 le10 st11 q12=> ?_;subst q12;refine zaa X X ?_;refine zay (d := 10) rfl (fun g13 => ?_) (fun g13 => ?_)
 ·refine Z X X X<|zcs X X<|Z X X X ?_;refine zk st11 rfl rfl rfl Tryz.call155 rfl (zjt (s := s) zbp (fun x_ : Int => (decide ((x_) < 97) || decide (122 < (x_)))) (by intro x_ hx_; simp; omega) (fun x_ h_ w_ hs_ => c_stem_letters_1 hs_ x_) Tryz.call156 st11.sub) ?_;intro r14 w15 h16 le17 st18 q19;subst q19;refine Z X X X<|zby X X<|zX (v := (.bool _)) X X X<|zH X X<|Y<|zw<|zc Tryz.results109 ?_;refine ⟨h16, _, rfl, st18.done, ?_⟩;refine zy ?_;rw [letters_eq];simp_all [zcQ]
 refine zQ 3 X<|zT (v := (.bool _)) X X X<|zH X X<|Y<|zw<|zc Tryz.results109 ?_;refine ⟨h9, _, rfl, st11.done, ?_⟩;refine zy ?_;rw [letters_eq];simp_all [zcQ]
theorem zju {h : Heap} {w : World} (hs : Sub h w) {hd : Head} (hd_l1 : hd.stem.length ≤ 281474976710656) (hd_l2 : 0 ≤ hd.mark ∧ hd.mark ≤ 255) : Calls Tryz.prog 131 #[.agg #[zP hd.stem, .int .u8 hd.mark]] w (Rets h w (fun _ _ res_ => res_ = .bool (zeg hd))) := by
 refine zN (n := 11) Tryz.func131 X X X<|have st0:=zbl hs;zf<|zJ st0 (cs := [zP (hd.stem), .int .u8 (hd.mark)]) X X X<|fun b1 w2 h3 le4 hc5 st6=>zH X X<|Y<|zf<|U X zbm X zak X X<|M (j := 0) st6.sub hc5 X X X zaA X<|zk st6 X X X Tryz.call109 X (zfy st6.sub _ zbp _)<|fun r7 w8 h9 le10 st11 q12=> ?_;subst q12;refine zaa X X ?_;refine zay (d := 6) rfl (fun g13 => ?_) (fun g13 => ?_)
 ·refine Z X X X<|U X zbm X zbs X X<|Z X X X<|M (j := 1) st11.sub (hc5.up le10) X X X zbW X<|Z X X X<|zj X X (r_leq X X)<|zX (v := (.bool _)) X X X<|zH X X<|Y<|zw<|zc Tryz.results131 ?_;refine ⟨h9, _, rfl, st11.done, ?_⟩;refine zy ?_;rw [head_eq _ zr];simp_all
 refine zQ 3 X<|zT (v := (.bool _)) X X X<|zH X X<|Y<|zw<|zc Tryz.results131 ?_;refine ⟨h9, _, rfl, st11.done, ?_⟩;refine zy ?_;rw [head_eq _ zr];simp_all
end Go.Pk
