/- A PART OF THE PROOF: contracts of functions, each walked once (much of it printed by a program of the author's own). -/
import Derived.Test.YtjdbapoodefncaaGreatDoorT5
import Derived.Test.YtjdbapoodefncaaGreatDoorT2
set_option linter.unusedSimpArgs false
set_option linter.unusedVariables false
set_option maxRecDepth 4000
namespace Go.Pk
open Go Go.RowKit Go.Proofs
theorem zcy {h : Heap} {w : World} (hs : Sub h w) (n : Int) (lo : Int) (hi : Int) : Calls Tryz.prog 181 #[.int .i64 n, .int .i64 lo, .int .i64 hi] w (Rets h w (fun _ _ res_ => res_ = .bool (inB n lo hi))) := by
 refine zN (n := 15) Tryz.func181 X X X<|have st0:=zbk hs;zd<|zH X X<|Y<|zd<|zh X X<|zh X X<|zih X X X<|zZ X X ?_;refine zah (d := 10) rfl (fun g1 => ?_) (fun g1 => ?_)
 ·refine Z X X X<|zh X X<|Z X X X<|zh X X<|Z X X X<|zi X X (r_leq X X)<|zW (v := (.bool _)) X X X<|zH X X<|Y<|zt<|zb Tryz.results181 ?_;refine ⟨h, _, rfl, st0.done, ?_⟩;refine zw ?_;simp [inB, *]
 refine zQ 3 X<|zU (v := (.bool _)) X X X<|zH X X<|Y<|zt<|zb Tryz.results181 ?_;refine ⟨h, _, rfl, st0.done, ?_⟩;refine zw ?_;simp [inB, *]
theorem zdL {h : Heap} {w : World} (hs : Sub h w) (n : Int) (lo : Int) (hi : Int) : Calls Tryz.prog 127 #[.int .i64 n, .int .i64 lo, .int .i64 hi] w (Rets h w (fun _ _ res_ => res_ = .bool (inB n lo hi))) := by
 refine zN (n := 15) Tryz.func127 X X X<|have st0:=zbk hs;zd<|zH X X<|Y<|zd<|zh X X<|zh X X<|zih X X X<|zZ X X ?_;refine zah (d := 10) rfl (fun g1 => ?_) (fun g1 => ?_)
 ·refine Z X X X<|zh X X<|Z X X X<|zh X X<|Z X X X<|zi X X (r_leq X X)<|zW (v := (.bool _)) X X X<|zH X X<|Y<|zt<|zb Tryz.results127 ?_;refine ⟨h, _, rfl, st0.done, ?_⟩;refine zw ?_;simp [inB, *]
 refine zQ 3 X<|zU (v := (.bool _)) X X X<|zH X X<|Y<|zt<|zb Tryz.results127 ?_;refine ⟨h, _, rfl, st0.done, ?_⟩;refine zw ?_;simp [inB, *]
theorem zeR {h : Heap} {w : World} (hs : Sub h w) (s : Str) (s_le : s.length ≤ 281474976710656) : Calls Tryz.prog 129 #[zP s] w (Rets h w (fun _ _ res_ => res_ = .bool (zdM s))) := by
 refine zN (n := 23) Tryz.func129 X X X<|have st0:=zbk hs;zd<|zH X X<|Y<|zk<|zd<|zr X X<|Y<|zB ?_;refine zaq (zbQ 2 18) (G := Nat × Heap) (fun ⟨k, h1⟩ => [(3, .int .i64 (k : Int))]) (fun ⟨k, h1⟩ w' => Le h h1 ∧ St h w h1 w' [] ∧ (k ≤ s.length) ∧ ((s.take k).all isL = true)) (fun ⟨k, h1⟩ => s.length - k) ⟨0, h⟩ ⟨rfl, trivial⟩ ⟨Le.refl _, st0, zaS, zaS⟩ ?_;rintro ⟨k, h1⟩ _ w4 ⟨le2, st3, hk, ht⟩;refine zk<|zd<|zh X X<|zcq X X<|zcA X zaz X<|zaR X X X<|Y ?_;refine zC rfl (fun c5 => ?_) (fun c5 => ?_)
 ·refine zx<|E<|zk<|zB<|zd<|zcq X X<|zh X X ?_;obtain ⟨y6, hy6⟩ : ∃ y_, (s)[k]? = some y_ := zbw zq;refine zi X X (ziD X X (hk := X) (hb := hy6) (hu := zaz))<|zaR X X X<|zZ X X ?_;refine zah (d := 14) rfl (fun g7 => ?_) (fun g7 => ?_)
  ·refine zQ 4 X<|zW (v := (.bool _)) X X X<|Y ?_;refine zae rfl (fun c8 => ?_) (fun c8 => ?_)
   ·refine zd<|zH X X<|Y<|zt<|zG<|zc<|zc<|zG<|zc<|zb Tryz.results129 ?_;refine ⟨h1, _, rfl, st3.done, ?_⟩;refine zw ?_;have hn := zcN (p := isL) (by assumption) (by simp [isL]; omega);simp [zdM, zcO, hn]
   cases c8
  refine Z X X X<|zcq X X<|Z X X X<|zh X X<|Z X X X<|zi X X (ziD X X (hk := X) (hb := hy6) (hu := zaz))<|Z X X X<|zdE X X X<|zU (v := (.bool _)) X X X<|Y ?_;refine zC rfl (fun c9 => ?_) (fun c9 => ?_)
  ·refine zd<|zH X X<|Y<|zt<|zG<|zc<|zc<|zG<|zc<|zb Tryz.results129 ?_;refine ⟨h1, _, rfl, st3.done, ?_⟩;refine zw ?_;have hn := zcN (p := isL) (by assumption) (by simp [isL]; omega);simp [zdM, zcO, hn]
  refine zx<|zK<|E<|zl<|zh X X<|zaI X X zaP X<|zr X X<|Y ?_;refine ⟨⟨k + 1, h1⟩, ⟨rfl, trivial⟩, ?_, ⟨le2, st3, ?_, ?_⟩, ?_⟩
  ·exact zap
  ·first | omega | (simp; omega)
  ·exact zcx ht (by assumption) (by simp [isL, *]; omega)
  show s.length - ((k + 1)) < s.length - k;omega
 refine zaC<|zm<|zm<|zag<|E<|zd<|zcq X X<|zcA X zaz X<|zj st3 X X X zgE X (zcy st3.sub _ _ _)<|fun r10 w11 h12 le13 st14 q15=> ?_;subst q15;refine zH X X<|Y<|zt<|zb Tryz.results129 ?_;refine ⟨h12, _, rfl, st14.done, ?_⟩;refine zw ?_;have hn := zdh ht zq;simp [zdM, zcO, hn]
theorem zhg {h : Heap} {w : World} (hs : Sub h w) (s : Str) (s_le : s.length ≤ 281474976710656) (lo : Int) : Calls Tryz.prog 126 #[zP s, .int .i64 lo] w (Rets h w (fun _ _ res_ => res_ = .bool (zcO s lo))) := by
 refine zN (n := 26) Tryz.func126 X X X<|have st0:=zbk hs;zd<|zH X X<|Y<|zk<|zd<|zr X X<|Y<|zB ?_;refine zaq (zbQ 4 18) (G := Nat × Heap) (fun ⟨k, h1⟩ => [(5, .int .i64 (k : Int))]) (fun ⟨k, h1⟩ w' => Le h h1 ∧ St h w h1 w' [] ∧ (k ≤ s.length) ∧ ((s.take k).all isL = true)) (fun ⟨k, h1⟩ => s.length - k) ⟨0, h⟩ ⟨rfl, trivial⟩ ⟨Le.refl _, st0, zaS, zaS⟩ ?_;rintro ⟨k, h1⟩ _ w4 ⟨le2, st3, hk, ht⟩;refine zk<|zd<|zh X X<|zcq X X<|zcA X zaz X<|zaR X X X<|Y ?_;refine zC rfl (fun c5 => ?_) (fun c5 => ?_)
 ·refine zx<|E<|zk<|zB<|zd<|zcq X X<|zh X X ?_;obtain ⟨y6, hy6⟩ : ∃ y_, (s)[k]? = some y_ := zbw zq;refine zi X X (ziD X X (hk := X) (hb := hy6) (hu := zaz))<|zaR X X X<|zZ X X ?_;refine zah (d := 16) rfl (fun g7 => ?_) (fun g7 => ?_)
  ·refine zQ 4 X<|zW (v := (.bool _)) X X X<|Y ?_;refine zae rfl (fun c8 => ?_) (fun c8 => ?_)
   ·refine zd<|zH X X<|Y<|zt<|zG<|zc<|zc<|zG<|zc<|zb Tryz.results126 ?_;refine ⟨h1, _, rfl, st3.done, ?_⟩;refine zw ?_;have hn := zcN (p := isL) (by assumption) (by simp [isL]; omega);simp [zdM, zcO, hn]
   cases c8
  refine Z X X X<|zcq X X<|Z X X X<|zh X X<|Z X X X<|zi X X (ziD X X (hk := X) (hb := hy6) (hu := zaz))<|Z X X X<|zdE X X X<|zU (v := (.bool _)) X X X<|Y ?_;refine zC rfl (fun c9 => ?_) (fun c9 => ?_)
  ·refine zd<|zH X X<|Y<|zt<|zG<|zc<|zc<|zG<|zc<|zb Tryz.results126 ?_;refine ⟨h1, _, rfl, st3.done, ?_⟩;refine zw ?_;have hn := zcN (p := isL) (by assumption) (by simp [isL]; omega);simp [zdM, zcO, hn]
  refine zx<|zK<|E<|zl<|zh X X<|zaI X X zaP X<|zr X X<|Y ?_;refine ⟨⟨k + 1, h1⟩, ⟨rfl, trivial⟩, ?_, ⟨le2, st3, ?_, ?_⟩, ?_⟩
  ·exact zap
  ·first | omega | (simp; omega)
  ·exact zcx ht (by assumption) (by simp [isL, *]; omega)
  show s.length - ((k + 1)) < s.length - k;omega
 refine zaC<|zm<|zm<|zag<|E<|zd<|zcq X X<|zcA X zaz X<|zh X X<|zj st3 X X X Tryz.call127 X (zdL st3.sub _ _ _)<|fun r10 w11 h12 le13 st14 q15=> ?_;subst q15;refine zH X X<|Y<|zt<|zb Tryz.results126 ?_;refine ⟨h12, _, rfl, st14.done, ?_⟩;refine zw ?_;have hn := zdh ht zq;simp [zdM, zcO, hn]
theorem c_postilref04_Rule {h : Heap} {w : World} (hs : Sub h w) {r : Rule} (r_l1 : r.cut.length ≤ 281474976710656) (r_l2 : r.put.length ≤ 281474976710656) : Calls Tryz.prog 87 #[.agg #[zP r.cut, zP r.put, .int .i64 r.least]] w (Rets h w (fun _ _ res_ => res_ = .bool (zhD r))) := by
 refine zN (n := 23) Tryz.func87 X X X<|have st0:=zbk hs;zd<|zJ st0 (cs := [zP (r.cut), zP (r.put), .int .i64 (r.least)]) X X X<|fun b1 w2 h3 le4 hc5 st6=>zH X X<|Y<|zd<|U X zbC X zak X X<|M (j := 0) st6.sub hc5 X X X zaD X<|zj st6 X X X Tryz.call126 X (zhg st6.sub _ zbv _)<|fun r7 w8 h9 le10 st11 q12=> ?_;subst q12;refine zZ X X ?_;refine zaE (d := 6) rfl (fun g13 => ?_) (fun g13 => ?_)
 ·refine Z X X X<|U X zbC X zak X X<|Z X X X<|M (j := 1) st11.sub (hc5.up le10) X X X zaD X<|Z X X X<|zj st11 X X X Tryz.call126 X (zhg st11.sub _ zbv _)<|fun r14 w15 h16 le17 st18 q19=> ?_;subst q19;refine zW (v := (.bool _)) X X X<|zZ X X ?_;refine zaE (d := 11) rfl (fun g20 => ?_) (fun g20 => ?_)
  ·refine Z X X X<|U X zbC X zak X X<|Z X X X<|M (j := 0) st18.sub (hc5.up (le10.t le17)) X X X zaD X<|Z X X X<|U X zbC X zak X X<|Z X X X<|M (j := 1) st18.sub (hc5.up (le10.t le17)) X X X zaD X<|Z X X X<|zi X X (r_sneq X X)<|zW (v := (.bool _)) X X X<|zZ X X ?_;refine zah (d := 18) rfl (fun g21 => ?_) (fun g21 => ?_)
   ·refine Z X X X<|U X zbC X zn X X<|Z X X X<|M (j := 2) st18.sub (hc5.up (le10.t le17)) X X X zz X<|Z X X X<|zj st18 X X X Tryz.call127 X (zdL st18.sub _ _ _)<|fun r22 w23 h24 le25 st26 q27=> ?_;subst q27;refine zW (v := (.bool _)) X X X<|zH X X<|Y<|zt<|zb Tryz.results87 ?_;refine ⟨h24, _, rfl, st26.done, ?_⟩;refine zw ?_;simp_all [zhD]
   refine zQ 3 X<|zU (v := (.bool _)) X X X<|zH X X<|Y<|zt<|zb Tryz.results87 ?_;refine ⟨h16, _, rfl, st18.done, ?_⟩;refine zw ?_;simp_all [zhD]
  refine zQ 5 X<|zU (v := (.bool _)) X X X<|zZ X X<|zQ 3 X<|zU (v := (.bool _)) X X X<|zH X X<|Y<|zt<|zb Tryz.results87 ?_;refine ⟨h16, _, rfl, st18.done, ?_⟩;refine zw ?_;simp_all [zhD]
 refine zQ 3 X<|zU (v := (.bool _)) X X X<|zZ X X<|zQ 5 X<|zU (v := (.bool _)) X X X<|zZ X X<|zQ 3 X<|zU (v := (.bool _)) X X X<|zH X X<|Y<|zt<|zb Tryz.results87 ?_;refine ⟨h9, _, rfl, st11.done, ?_⟩;refine zw ?_;simp_all [zhD]
theorem zeQ {h : Heap} {w : World} (hs : Sub h w) {hd : Head} (hd_l1 : hd.stem.length ≤ 281474976710656) (hd_l2 : 0 ≤ hd.mark ∧ hd.mark ≤ 255) : Calls Tryz.prog 130 #[.agg #[zP hd.stem, .int .u8 hd.mark]] w (Rets h w (fun _ _ res_ => res_ = .bool (zeh hd))) := by
 refine zN (n := 12) Tryz.func130 X X X<|have st0:=zbk hs;zd<|zJ st0 (cs := [zP (hd.stem), .int .u8 (hd.mark)]) X X X<|fun b1 w2 h3 le4 hc5 st6=>zH X X<|Y<|zd<|U X zbo X zak X X<|M (j := 0) st6.sub hc5 X X X zaD X<|zj st6 X X X Tryz.call129 X (zeR st6.sub _ zbv)<|fun r7 w8 h9 le10 st11 q12=> ?_;subst q12;refine zZ X X ?_;refine zaE (d := 6) rfl (fun g13 => ?_) (fun g13 => ?_)
 ·refine Z X X X<|U X zbo X zbx X X<|Z X X X<|M (j := 1) st11.sub (hc5.up le10) X X X zbX X<|Z X X X ?_;refine zi rfl rfl (zhm rfl rfl zcg (IntWalk.i64_in _ zq)) ?_;refine Z X X X<|zj st11 X X X Tryz.call127 X (zdL st11.sub _ _ _)<|fun r14 w15 h16 le17 st18 q19=> ?_;subst q19;refine zW (v := (.bool _)) X X X<|zH X X<|Y<|zt<|zb Tryz.results130 ?_;refine ⟨h16, _, rfl, st18.done, ?_⟩;refine zw ?_;simp_all [zeh]
 refine zQ 4 X<|zU (v := (.bool _)) X X X<|zH X X<|Y<|zt<|zb Tryz.results130 ?_;refine ⟨h9, _, rfl, st11.done, ?_⟩;refine zw ?_;simp_all [zeh]
theorem c_postilref01_Before {h : Heap} {w : World} (hs : Sub h w) {a : Place} {b : Place} : Calls Tryz.prog 164 #[.agg #[.int .i64 a.chapter, .int .i64 a.line, .int .i64 a.word], .agg #[.int .i64 b.chapter, .int .i64 b.line, .int .i64 b.word]] w (Rets h w (fun _ _ res_ => res_ = .bool (zeo a b))) := by
 refine zN (n := 30) Tryz.func164 X X X<|have st0:=zbk hs;zd<|zJ st0 (cs := [.int .i64 (a.chapter), .int .i64 (a.line), .int .i64 (a.word)]) X X X<|fun b1 w2 h3 le4 hc5 st6=>zJ st6 (cs := [.int .i64 (b.chapter), .int .i64 (b.line), .int .i64 (b.word)]) X X X<|fun b7 w8 h9 le10 hc11 st12=>zH X X<|Y<|zk<|zd<|U X zam X zn X X<|M (j := 0) st12.sub (hc5.up le10) X X X zz X<|U X zam X zn X X<|M (j := 0) st12.sub hc11 X X X zz X<|zcR X X X<|Y ?_;refine zC rfl (fun c13 => ?_) (fun c13 => ?_)
 ·refine zd<|U X zam X zn X X<|M (j := 0) st12.sub (hc5.up le10) X X X zz X<|U X zam X zn X X<|M (j := 0) st12.sub hc11 X X X zz X<|zaR X X X<|zH X X<|Y<|zt<|zc<|zb Tryz.results164 ?_;refine ⟨h9, _, rfl, st12.done, ?_⟩;refine zw ?_;simp_all [zeo]
 refine zx<|E<|zk<|zd<|U X zam X zn X X<|M (j := 1) st12.sub (hc5.up le10) X X X zz X<|U X zam X zn X X<|M (j := 1) st12.sub hc11 X X X zz X<|zcR X X X<|Y ?_;refine zC rfl (fun c14 => ?_) (fun c14 => ?_)
 ·refine zd<|U X zam X zn X X<|M (j := 1) st12.sub (hc5.up le10) X X X zz X<|U X zam X zn X X<|M (j := 1) st12.sub hc11 X X X zz X<|zaR X X X<|zH X X<|Y<|zt<|zc<|zb Tryz.results164 ?_;refine ⟨h9, _, rfl, st12.done, ?_⟩;refine zw ?_;simp_all [zeo]
 refine zx<|E<|zd<|U X zam X zn X X<|M (j := 2) st12.sub (hc5.up le10) X X X zz X<|U X zam X zn X X<|M (j := 2) st12.sub hc11 X X X zz X<|zaR X X X<|zH X X<|Y<|zt<|zb Tryz.results164 ?_;refine ⟨h9, _, rfl, st12.done, ?_⟩;refine zw ?_;simp_all [zeo]
end Go.Pk

namespace Go.Pk
open Go Go.RowKit Go.Proofs
theorem c_postilref01_Text {h : Heap} {w : World} (hs : Sub h w) {t : Text} {t_v0 : Value} (t_f0 : Sl LChapter h t_v0 t.chapters) : Calls Tryz.prog 200 #[.agg #[t_v0]] w (Rets h w (fun _ _ res_ => res_ = .bool (zbn t))) := by
 refine zN (n := 85) Tryz.func200 X X X<|have st0:=zbk hs;have t_f0_b:=t_f0.le;zd<|zJ st0 (cs := [t_v0]) X X X<|fun b1 w2 h3 le4 hc5 st6=>zH X X<|Y<|zk<|zd<|U X zaQ X zbz X X<|M (j := 0) st6.sub hc5 X X X zbZ X<|zaH (t_f0.up le4) X zaK X<|zj st6 X X X zgE X (zcy st6.sub _ _ _)<|fun r7 w8 h9 le10 st11 q12=> ?_;subst q12;refine zbE X X<|Y ?_;refine zae rfl (fun c13 => ?_) (fun c13 => ?_)
 ·refine zd<|zH X X<|Y<|zt<|zc<|zb zeT ?_;refine ⟨h9, _, rfl, st11.done, ?_⟩;refine zw ?_;simp_all [zbn]
 refine zx<|E<|zk<|zd<|zr X X<|Y<|zB ?_;refine zaq (zbQ 2 6 ++ zbQ 13 72) (G := Nat × Heap) (fun ⟨i, h14⟩ => [(3, .int .i64 (i : Int))]) (fun ⟨i, h14⟩ w' => Le h9 h14 ∧ St h w h14 w' [] ∧ (i ≤ t.chapters.length) ∧ ((t.chapters.take i).all zbR = true) ∧ (((t.chapters.take i).map (·.id)).Nodup)) (fun ⟨i, h14⟩ => t.chapters.length - i) ⟨0, h9⟩ ⟨rfl, trivial⟩ ⟨Le.refl _, st11, zaS, zaS, zaS⟩ ?_;rintro ⟨i, h14⟩ _ w17 ⟨le15, st16, hi, hA, hN⟩;refine zk<|zd<|zh X X<|U X zaQ X zbz X X<|M (j := 0) st16.sub (hc5.up (le10.t le15)) X X X zbZ X<|have l18:=(le4.t le10).t le15;zaH (t_f0.up l18) X zaK X<|zaR X X X<|Y ?_;refine zC rfl (fun c19 => ?_) (fun c19 => ?_)
 ·refine zx<|E<|zk<|zB<|zd<|U X zaQ X zbz X X<|M (j := 0) st16.sub (hc5.up (le10.t le15)) X X X zbZ X<|zh X X ?_;obtain ⟨c, hc⟩ : ∃ y_, (t.chapters)[i]? = some y_ := zbw zq;obtain ⟨b20, o21, _, he23, hc22, hr_c⟩ := Sl.elem (t_f0.up l18) hc;obtain ⟨v24, rfl, f25⟩ := hr_c;have f25_b := f25.le;refine zS he23 X X (hk := X) (hu := zaK) (hz := zbD) X<|zA st16.sub hc22 X Tryz.isAgg107 zbD X X<|zT st16 Tryz.zeroValue107 X X<|fun b26 w27 st28=>zM st28 (k := 0) X X X (za X (za f25.one zat)) zbD X X X<|fun w29 st30=> ?_;obtain ⟨h31, le32, hb33, st35⟩ := st30.freeze (k := 0) rfl;have hc34 := Cells.of hb33;refine Y<|zk<|zd<|U X zaG X zn X X<|M (j := 0) st35.sub hc34 X X X zz X<|zj st35 X X X zgE X (zcy st35.sub _ _ _)<|fun r36 w37 h38 le39 st40 q41=> ?_;subst q41;refine zbE X X<|zZ X X ?_;refine zaE (d := 29) rfl (fun g42 => ?_) (fun g42 => ?_)
  ·refine zQ 5 X<|zW (v := (.bool _)) X X X<|Y ?_;refine zae rfl (fun c43 => ?_) (fun c43 => ?_)
   ·refine zd<|zH X X<|Y<|zt<|zc<|zG<|zc<|zc<|zG<|zc<|zb zeT ?_;refine ⟨h38, _, rfl, st40.done, ?_⟩;refine zw ?_;have q0 : zbR c = false := by simp_all [zbR]
    have q := zcN (p := zbR) hc q0;simp [zbn, q]
   cases c43
  refine Z X X X<|U X zaG X zbO X X<|Z X X X<|M (j := 1) st40.sub (hc34.up le39) X X X zck X<|Z X X X<|zaH (f25.up (le32.t le39)) X zaO X<|Z X X X<|zj st40 X X X zgE X (zcy st40.sub _ _ _)<|fun r44 w45 h46 le47 st48 q49=> ?_;subst q49;refine Z X X X<|zbE X X<|zU (v := (.bool _)) X X X<|Y ?_;refine zae rfl (fun c50 => ?_) (fun c50 => ?_)
  ·refine zd<|zH X X<|Y<|zt<|zc<|zG<|zc<|zc<|zG<|zc<|zb zeT ?_;refine ⟨h46, _, rfl, st48.done, ?_⟩;refine zw ?_;have q0 : zbR c = false := by simp_all [zbR]
   have q := zcN (p := zbR) hc q0;simp [zbn, q]
  refine zx<|E<|zk<|zd<|zr X X<|Y<|zB ?_;refine zaq ([2, 5] ++ zbQ 36 14) (G := Nat × Heap) (fun ⟨k1, h51⟩ => [(5, .int .i64 (k1 : Int))]) (fun ⟨k1, h51⟩ w' => Le h46 h51 ∧ St h w h51 w' [[]] ∧ (k1 ≤ i) ∧ (∀ j c2, j < k1 → t.chapters[j]? = some c2 → c2.id ≠ c.id)) (fun ⟨k1, h51⟩ => i - k1) ⟨0, h46⟩ ⟨rfl, trivial⟩ ⟨Le.refl _, st48, zaS, (by intro j _ hj; omega)⟩ ?_;rintro ⟨k1, h51⟩ _ w54 ⟨le52, st53, hk1, hd⟩;refine zk<|zd<|zh X X<|zh X X<|zaR X X X<|Y ?_;refine zC rfl (fun c55 => ?_) (fun c55 => ?_)
  ·refine zx<|E<|zk<|zB<|zk<|zbL Tryz.mixed O (Cls h51 _) (Cls.drew st53)<|zY X zaQ X zbz X X<|have l56:=((((le10.t le15).t le32).t le39).t le47).t le52;zD X X (fun _ hC => (zg (j := 0) hC.sub (hc5.up l56) X X X zbZ))<|zdf X X ?_;obtain ⟨cc, hcc⟩ : ∃ y_, (t.chapters)[k1]? = some y_ := zbw zq;have l61 := (((l18.t le32).t le39).t le47).t le52;obtain ⟨b57, o58, _, he60, hc59, hr_cc⟩ := Sl.elem (t_f0.up l61) hcc;obtain ⟨v62, rfl, f63⟩ := hr_cc;have f63_b := f63.le;refine zbH he60 X X (hk := X) (hu := zaK) (hz := zbD) X<|zY X zaG X zn X X<|zD X X (fun _ hC => (zg (j := 0) hC.sub hc59 X X X zz))<|zY X zaG X zn X X<|zD X X (fun _ hC => (zg (j := 0) hC.sub (hc34.up ((le39.t le47).t le52)) X X X zz))<|u_eql X X X<|zbt ?_;rintro w64 ⟨h65, s66⟩;have st67 := st53.call0 s66;refine E ?_;refine zC rfl (fun c68 => ?_) (fun c68 => ?_)
   ·refine zd<|zH X X<|Y<|zt<|zG<|zc<|zc<|zG<|zc<|zG<|zc<|zc<|zG<|zc<|zb zeT ?_;refine ⟨h65, _, rfl, st67.done, ?_⟩;refine zw ?_;have q := zja (f := (·.id)) hcc hc zq (by assumption);simp [zbn, q]
   refine zx<|zK<|E<|zl<|zh X X<|zaI X X zaP X<|zr X X<|Y ?_;refine ⟨⟨k1 + 1, h65⟩, ⟨rfl, trivial⟩, ?_, ⟨(le52.trans s66.le), st67, ?_, ?_⟩, ?_⟩
   ·exact zap
   ·first | omega | (simp; omega)
   ·intro j c2 h1 h2
    rcases Nat.lt_or_ge j k1 with h3 | h3
    ·exact hd j c2 h3 h2
    ·obtain rfl : j = k1 := by omega
     rw [h2] at hcc; cases hcc; assumption
   show i - ((k1 + 1)) < i - k1;omega
  refine zaC<|zm<|zm<|zag<|E<|zd<|zr X X<|Y<|zB ?_;refine zaq ([2, 6, 7] ++ zbQ 50 35) (G := Nat × Heap) (fun ⟨k2, h69⟩ => [(6, .int .i64 (k2 : Int))]) (fun ⟨k2, h69⟩ w' => Le h51 h69 ∧ St h w h69 w' [[]] ∧ (k2 ≤ c.lines.length) ∧ ((c.lines.take k2).all zgQ = true)) (fun ⟨k2, h69⟩ => c.lines.length - k2) ⟨0, h51⟩ ⟨rfl, trivial⟩ ⟨Le.refl _, st53, zaS, zaS⟩ ?_;rintro ⟨k2, h69⟩ _ w72 ⟨le70, st71, hk2, hl⟩;refine zk<|zd<|zh X X<|U X zaG X zbO X X<|have l73:=((le39.t le47).t le52).t le70;M (j := 1) st71.sub (hc34.up l73) X X X zck X<|have l74:=(((le32.t le39).t le47).t le52).t le70;zaH (f25.up l74) X zaO X<|zaR X X X<|Y ?_;refine zC rfl (fun c75 => ?_) (fun c75 => ?_)
  ·refine zx<|E<|zk<|zB<|zk<|zd<|U X zaG X zbO X X<|M (j := 1) st71.sub (hc34.up l73) X X X zck X<|zh X X ?_;obtain ⟨ln, hln⟩ : ∃ y_, (c.lines)[k2]? = some y_ := zbw zq;obtain ⟨b76, o77, _, he79, hc78, hr_ln⟩ := Sl.elem (f25.up l74) hln;obtain ⟨v80, rfl, f81⟩ := hr_ln;have f81_b := f81.le;refine zS he79 X X (hk := X) (hu := zaO) (hz := zdV) X<|M (j := 0) st71.sub hc78 X X X zem X<|zaH f81 X zV X<|zj st71 X X X zgE X (zcy st71.sub _ _ _)<|fun r82 w83 h84 le85 st86 q87=> ?_;subst q87;refine zbE X X<|Y ?_;refine zae rfl (fun c88 => ?_) (fun c88 => ?_)
   ·refine zd<|zH X X<|Y<|zt<|zc<|zG<|zc<|zc<|zG<|zG<|zc<|zc<|zG<|zc<|zb zeT ?_;refine ⟨h84, _, rfl, st86.done, ?_⟩;refine zw ?_;have q1 : zgQ ln = false := by simp_all [zgQ]
    have q2 := zcN (p := zgQ) hln q1;have q0 : zbR c = false := by simp [zbR, q2]
    have q := zcN (p := zbR) hc q0;simp [zbn, q]
   refine zx<|E<|zd<|zr X X<|Y<|zB ?_;refine zaq ([2, 7] ++ zbQ 65 20) (G := Nat × Heap) (fun ⟨k3, h89⟩ => [(7, .int .i64 (k3 : Int))]) (fun ⟨k3, h89⟩ w' => Le h84 h89 ∧ St h w h89 w' [[]] ∧ (k3 ≤ ln.length) ∧ ((ln.take k3).all zdM = true)) (fun ⟨k3, h89⟩ => ln.length - k3) ⟨0, h84⟩ ⟨rfl, trivial⟩ ⟨Le.refl _, st86, zaS, zaS⟩ ?_;rintro ⟨k3, h89⟩ _ w92 ⟨le90, st91, hk3, hw⟩;refine zk<|zd<|zh X X<|U X zaG X zbO X X<|M (j := 1) st91.sub (hc34.up ((l73.t le85).t le90)) X X X zck X<|zh X X<|zS he79 X X (hk := X) (hu := zaO) (hz := zdV) X<|M (j := 0) st91.sub (hc78.up (le85.t le90)) X X X zem X<|zaH (f81.up (le85.t le90)) X zV X<|zaR X X X<|Y ?_;refine zC rfl (fun c93 => ?_) (fun c93 => ?_)
   ·refine zx<|E<|zk<|zB<|zd<|U X zaG X zbO X X<|M (j := 1) st91.sub (hc34.up ((l73.t le85).t le90)) X X X zck X<|zh X X<|zS he79 X X (hk := X) (hu := zaO) (hz := zdV) X<|M (j := 0) st91.sub (hc78.up (le85.t le90)) X X X zem X<|zh X X ?_;obtain ⟨y94, hy94⟩ : ∃ y_, (ln)[k3]? = some y_ := zbw zq;obtain ⟨b95, o96, _, he98, hc97, hr_y94⟩ := Sl.elem (f81.up (le85.t le90)) hy94;obtain ⟨rfl, ls99⟩ := hr_y94;simp only [big] at ls99;refine zS he98 X X (hk := X) (hu := zV) (hz := zak) X<|M (j := 0) st91.sub hc97 X X X zaD X<|zj st91 X X X Tryz.call129 X (zeR st91.sub _ zbv)<|fun r100 w101 h102 le103 st104 q105=> ?_;subst q105;refine zbE X X<|Y ?_;refine zae rfl (fun c106 => ?_) (fun c106 => ?_)
    ·refine zd<|zH X X<|Y<|zt<|zG<|zc<|zc<|zG<|zG<|zc<|zc<|zG<|zG<|zc<|zc<|zG<|zc<|zb zeT ?_;refine ⟨h102, _, rfl, st104.done, ?_⟩;refine zw ?_;have q3 := zcN (p := zdM) (by assumption) (by simpa using c106);have q1 : zgQ ln = false := by simp [zgQ, q3]
     have q2 := zcN (p := zgQ) hln q1;have q0 : zbR c = false := by simp [zbR, q2]
     have q := zcN (p := zbR) hc q0;simp [zbn, q]
    refine zx<|zK<|E<|zl<|zh X X<|zaI X X zaP X<|zr X X<|Y ?_;refine ⟨⟨k3 + 1, h102⟩, ⟨rfl, trivial⟩, ?_, ⟨(le90.t le103), st104, ?_, ?_⟩, ?_⟩
    ·exact zap
    ·first | omega | (simp; omega)
    ·exact zcx hw (by assumption) (by simp_all)
    show ln.length - ((k3 + 1)) < ln.length - k3;omega
   refine zaC<|zm<|zm<|zag<|zK<|E<|zl<|zh X X<|zaI X X zaP X<|zr X X<|Y ?_;refine ⟨⟨k2 + 1, h89⟩, ⟨rfl, trivial⟩, ?_, ⟨((le70.t le85).t le90), st91, ?_, ?_⟩, ?_⟩
   ·exact zap
   ·first | omega | (simp; omega)
   ·exact zcx hl hln (by simp_all [zgQ, zdh hw zq])
   show c.lines.length - ((k2 + 1)) < c.lines.length - k2;omega
  refine zaC<|zm<|zm<|zag<|zK<|E<|zl<|zh X X<|zaI X X zaP X<|zr X X<|Y ?_;have HCH : zbR c = true := by
   have q := zdh hl zq;simp_all [zbR]
  have l107 := ((((le15.t le32).t le39).t le47).t le52).t le70;refine ⟨⟨i + 1, h69⟩, ⟨rfl, trivial⟩, ?_, ⟨l107, st71.take 0, ?_, ?_, ?_⟩, ?_⟩
  ·exact zap
  ·first | omega | (simp; omega)
  ·exact zcx hA hc HCH
  ·exact nodup_take_succ hN hc zq (fun j c2 h1 h2 => hd j c2 zq h2)
  show t.chapters.length - ((i + 1)) < t.chapters.length - i;omega
 refine zaC<|zm<|zm<|zag<|E<|zd<|zH X X<|Y<|zt<|zb zeT ?_;refine ⟨h14, _, rfl, st16.done, ?_⟩;refine zw ?_;have q := zdh hA zq;have q2 : t.chapters.take i = t.chapters := List.take_of_length_le zq;rw [q2] at hN;simp_all [zbn]
theorem c_postilref01_Check {h : Heap} {w : World} (hs : Sub h w) {t : Text} {t_v0 : Value} (t_f0 : Sl LChapter h t_v0 t.chapters) : Calls Tryz.prog 163 #[.agg #[t_v0]] w (Rets h w (fun _ _ res_ => res_ = .int .i64 ((if zbn t then 0 else 10)))) := by
 refine zN (n := 6) Tryz.func163 X X X<|have st0:=zbk hs;have t_f0_b:=t_f0.le;zd<|zJ st0 (cs := [t_v0]) X X X<|fun b1 w2 h3 le4 hc5 st6=>zr X X<|Y<|zk<|zd<|zA st6.sub hc5 X zbl zaw X X<|zj st6 X X X Tryz.call200 X (c_postilref01_Text st6.sub (t := t) (t_f0.up le4))<|fun r7 w8 h9 le10 st11 q12=> ?_;subst q12;refine zbE X X<|Y ?_;refine zae rfl (fun c13 => ?_) (fun c13 => ?_)
 ·refine zd<|zr X X<|Y<|zt<|zc<|zb Tryz.results163 ?_;refine ⟨h9, _, rfl, st11.done, ?_⟩;refine zaf ?_;simp_all
 refine zx<|E<|zd<|zr X X<|Y<|zt<|zb Tryz.results163 ?_;refine ⟨h9, _, rfl, st11.done, ?_⟩;refine zaf ?_;simp_all
theorem c_postilref01_line {h : Heap} {w : World} (hs : Sub h w) {t : Text} {t_v0 : Value} (t_f0 : Sl LChapter h t_v0 t.chapters) {p : Place} : Calls Tryz.prog 180 #[.agg #[t_v0], .agg #[.int .i64 p.chapter, .int .i64 p.line, .int .i64 p.word]] w (Rets h w (fun h' _ res_ => ∃ u0, res_ = .tuple #[u0, .bool ((zdd t p).isSome)] ∧ Sl LStr h' u0 ((zdd t p).getD []))) := by
 refine zN (n := 40) Tryz.func180 X X X<|have st0:=zbk hs;have t_f0_b:=t_f0.le;zd<|zJ st0 (cs := [t_v0]) X X X<|fun b1 w2 h3 le4 hc5 st6=>zJ st6 (cs := [.int .i64 (p.chapter), .int .i64 (p.line), .int .i64 (p.word)]) X X X<|fun b7 w8 h9 le10 hc11 st12=>zcD X X<|zH X X<|Y<|zk<|zk<|zbL Tryz.mixed O (Cls h9 _) (Cls.drew st12)<|zY X zam X zn X X<|zD X X (fun _ hC => (zg (j := 0) hC.sub hc11 X X X zz))<|zY X zaQ X zbz X X<|zD X X (fun _ hC => (zg (j := 0) hC.sub (hc5.up le10) X X X zbZ))<|have l13:=le4.t le10;u_len (t_f0.up l13) X zaK X<|u_sub X X zaP X<|zcM X X (fun _ => zbb X zgE X) (fun _ hC => Rets.quiet hC (zcy hC.sub _ _ _))<|u_not X X<|zhQ X X ?_;refine zfD (d := 14) rfl (fun g14 => ?_) (fun g14 => ?_)
 ·refine zfQ 13 X<|zfE (v := (.bool _)) X X X<|zbt ?_;rintro w15 ⟨h16, s17⟩;have st18 := st12.call0 s17;refine E ?_;refine zae rfl (fun c19 => ?_) (fun c19 => ?_)
  ·refine zd<|zcD X X<|zH X X<|Y<|zt<|zc<|zbd Tryz.results180 ?_;refine ⟨h16, _, rfl, st18.done, ?_⟩;refine ⟨_, zdu rfl (zw ?_), Sl.to (Sl.nil _ _) ?_⟩
   all_goals have q := g14
   all_goals simp [inB] at q
   ·have q2 : zdd t p = none := line_none1 zq;simp [q2]
   have q2 : zdd t p = none := line_none1 zq;simp [q2]
  cases c19
 refine zF X X X<|zY X zam X zn X X<|zF X X X<|zD X X (fun _ hC => (zg (j := 1) hC.sub hc11 X X X zz))<|zF X X X<|zY X zaQ X zbz X X<|zF X X X<|zD X X (fun _ hC => (zg (j := 0) hC.sub (hc5.up le10) X X X zbZ))<|zF X X X<|zY X zam X zn X X<|zF X X X<|zD X X (fun _ hC => (zg (j := 0) hC.sub hc11 X X X zz))<|zF X X X ?_;have q1 : 0 ≤ p.chapter ∧ p.chapter < t.chapters.length := by
  have q := g14;simp [inB] at q;omega
 obtain ⟨c, hc⟩ : ∃ y_, (t.chapters)[p.chapter.toNat]? = some y_ := zbw zq;obtain ⟨b20, o21, _, he23, hc22, hr_c⟩ := Sl.elem (t_f0.up l13) hc;obtain ⟨v24, rfl, f25⟩ := hr_c;have f25_b := f25.le;refine zD rfl rfl (fun _ _ => (zas he23 rfl rfl (hk := (show _ = ((p.chapter.toNat : Nat) : Int) by omega)) (hu := zaK) (hz := zbD))) ?_;refine zF X X X<|zY X zaG X zbO X X<|zF X X X<|zD X X (fun _ hC => (zg (j := 1) hC.sub hc22 X X X zck))<|zF X X X<|u_len f25 X zaO X<|zF X X X<|u_sub X X zaP X<|zF X X X<|zcM X X (fun _ => zbb X zgE X) (fun _ hC => Rets.quiet hC (zcy hC.sub _ _ _))<|zF X X X<|u_not X X<|zeK (v := (.bool _)) X X X<|zbt ?_;rintro w26 ⟨h27, s28⟩;have st29 := st12.call0 s28;refine E ?_;refine zae rfl (fun c30 => ?_) (fun c30 => ?_)
 ·refine zd<|zcD X X<|zH X X<|Y<|zt<|zc<|zbd Tryz.results180 ?_;refine ⟨h27, _, rfl, st29.done, ?_⟩;refine ⟨_, zdu rfl (zw ?_), Sl.to (Sl.nil _ _) ?_⟩
  all_goals have q := c30
  all_goals simp [inB] at q
  ·have q2 : zdd t p = none := line_none2 hc zq;simp [q2]
  have q2 : zdd t p = none := line_none2 hc zq;simp [q2]
 refine zx<|E<|zk ?_;have q2 : 0 ≤ p.line ∧ p.line < c.lines.length := by
  have q := c30;simp [inB] at q;omega
 refine zbL Tryz.mixed O (Cls h27 _) (Cls.drew st29)<|zY X zaQ X zbz X X<|zD X X (fun _ hC => (zg (j := 0) hC.sub (hc5.up (le10.trans s28.le)) X X X zbZ))<|zY X zam X zn X X<|zD X X (fun _ hC => (zg (j := 0) hC.sub (hc11.up s28.le) X X X zz)) ?_;refine zD rfl rfl (fun _ _ => (zas he23 rfl rfl (hk := (show _ = ((p.chapter.toNat : Nat) : Int) by omega)) (hu := zaK) (hz := zbD))) ?_;refine zY X zaG X zbO X X<|zD X X (fun _ hC => (zg (j := 1) hC.sub (hc22.up s28.le) X X X zck))<|zY X zam X zn X X<|zD X X (fun _ hC => (zg (j := 1) hC.sub (hc11.up s28.le) X X X zz)) ?_;obtain ⟨ln, hln⟩ : ∃ y_, (c.lines)[p.line.toNat]? = some y_ := zbw zq;obtain ⟨b31, o32, _, he34, hc33, hr_ln⟩ := Sl.elem (f25.up s28.le) hln;obtain ⟨v35, rfl, f36⟩ := hr_ln;have f36_b := f36.le;refine zD rfl rfl (fun _ _ => (zas he34 rfl rfl (hk := (show _ = ((p.line.toNat : Nat) : Int) by omega)) (hu := zaO) (hz := zdV))) ?_;refine zD X X (fun _ hC => (zg (j := 0) hC.sub hc33 X X X zem))<|u_assign (v := v35) X X<|u_asB X X<|zbt ?_;rintro w37 ⟨h38, s39⟩;have st40 := st29.call0 s39;refine E<|zt<|zbd Tryz.results180 ?_;refine ⟨h38, _, rfl, st40.done, ?_⟩;refine ⟨_, zdu rfl (zw ?_), Sl.to (f36.up s39.le) ?_⟩
 ·simp [line_some hc q1.1 hln q2.1]
 simp [line_some hc q1.1 hln q2.1]
theorem zhS {h : Heap} {w : World} (hs : Sub h w) {t : Text} {t_v0 : Value} (t_f0 : Sl LChapter h t_v0 t.chapters) {p : Place} : Calls Tryz.prog 128 #[.agg #[t_v0], .agg #[.int .i64 p.chapter, .int .i64 p.line, .int .i64 p.word]] w (Rets h w (fun _ _ res_ => res_ = .bool (zbI t p))) := by
 refine zN (n := 22) Tryz.func128 X X X<|have st0:=zbk hs;have t_f0_b:=t_f0.le;zd<|zJ st0 (cs := [t_v0]) X X X<|fun b1 w2 h3 le4 hc5 st6=>zJ st6 (cs := [.int .i64 (p.chapter), .int .i64 (p.line), .int .i64 (p.word)]) X X X<|fun b7 w8 h9 le10 hc11 st12=>zH X X<|Y<|zd<|zA st12.sub (hc5.up le10) X zbl zaw X X<|zA st12.sub hc11 X zaT zX X X<|have l13:=le4.t le10;zj st12 X X X Tryz.call180 X (c_postilref01_line st12.sub (t := t) (t_f0.up l13) (p := p))<|fun r14 w15 h16 le17 st18 q19=> ?_;obtain ⟨v20, rfl, f21⟩ := q19;have f21_b := f21.le;refine zdc X X<|zR (v := v20) X X X<|zR (v := (.bool _)) X X X<|zad (v := v20) X X<|zH X X<|Y<|zd<|zZ X X<|zZ X X ?_;refine zaE (d := 14) rfl (fun g22 => ?_) (fun g22 => ?_)
 ·refine Z X X X<|U X zam X zn X X<|Z X X X<|M (j := 2) st18.sub (hc11.up le17) X X X zz X<|Z X X X<|zO (v := v20) X X<|Z X X X<|zaH f21 X zV X<|Z X X X<|ziB X X zaP X<|Z X X X<|zj st18 X X X zgE X (zcy st18.sub _ _ _)<|fun r23 w24 h25 le26 st27 q28=> ?_;subst q28;refine zW (v := (.bool _)) X X X<|zH X X<|Y<|zt<|zb Tryz.results128 ?_;refine ⟨h25, _, rfl, st27.done, ?_⟩;refine zw ?_;simp_all [place_eq]
 refine zQ 6 X<|zU (v := (.bool _)) X X X<|zH X X<|Y<|zt<|zb Tryz.results128 ?_;refine ⟨h16, _, rfl, st18.done, ?_⟩;refine zw ?_;simp_all [place_eq]
theorem zjz {h : Heap} {w : World} (hs : Sub h w) {t : Text} {t_v0 : Value} (t_f0 : Sl LChapter h t_v0 t.chapters) {d : Decision} (d_l2 : 0 ≤ d.kind ∧ d.kind ≤ 255) (d_l3 : d.form.length ≤ 281474976710656) (d_l7 : d.to.stem.length ≤ 281474976710656) (d_l8 : 0 ≤ d.to.mark ∧ d.to.mark ≤ 255) : Calls Tryz.prog 88 #[.agg #[t_v0], .agg #[.int .i64 d.number, .int .u8 d.kind, zP d.form, .int .i64 d.at_.chapter, .int .i64 d.at_.line, .int .i64 d.at_.word, zP d.to.stem, .int .u8 d.to.mark, .int .i64 d.of_]] w (Rets h w (fun _ _ res_ => res_ = .bool (zaj t d))) := by
 refine zN (n := 102) Tryz.func88 X X X<|have st0:=zbk hs;have t_f0_b:=t_f0.le;zd<|zJ st0 (cs := [t_v0]) X X X<|fun b1 w2 h3 le4 hc5 st6=>zJ st6 (cs := [.int .i64 (d.number), .int .u8 (d.kind), zP (d.form), .int .i64 (d.at_.chapter), .int .i64 (d.at_.line), .int .i64 (d.at_.word), zP (d.to.stem), .int .u8 (d.to.mark), .int .i64 (d.of_)]) X X X<|fun b7 w8 h9 le10 hc11 st12=>zH X X<|Y<|zk<|zd<|U X zo X zn X X<|M (j := 0) st12.sub hc11 X X X zz X<|zj st12 X X X Tryz.call127 X (zdL st12.sub _ _ _)<|fun r13 w14 h15 le16 st17 q18=> ?_;subst q18;refine zbE X X<|Y ?_;refine zae rfl (fun c19 => ?_) (fun c19 => ?_)
 ·refine zd<|zH X X<|Y<|zt<|zc<|zb zco ?_;refine ⟨h15, _, rfl, st17.done, ?_⟩;refine zw ?_;simp_all [zaj]
 have qn : 1 ≤ d.number ∧ d.number ≤ 999 := by
  have q := c19;simp [inB] at q;omega
 refine zx<|E<|zd<|zi X X (zbu (cs := [.int .i64 0, .int .i64 0, .int .i64 0]) O)<|zi X X (zbu (cs := [zP [], .int .u8 0]) O)<|zA st17.sub (hc5.up (le10.t le16)) X zbl zaw X X<|U X zo X zX X X<|zal (j := 3) st17.sub (hc11.up le16) (us := [.int .i64 (d.at_.chapter), .int .i64 (d.at_.line), .int .i64 (d.at_.word)]) X X zaT zX X X X<|have l20:=(le4.t le10).t le16;zj st17 X X X Tryz.call128 X (zhS st17.sub (t := t) (t_f0.up l20) (p := d.at_))<|fun r21 w22 h23 le24 st25 q26=> ?_;subst q26;refine zT st25 Tryz.zeroValue49 X X<|fun b27 w28 st29=>zT st29 zfb X X<|fun b30 w31 st32=>zM st32 (k := 0) X X X (za X (za X (za X zat))) zX X X X<|fun w33 st34=> ?_;obtain ⟨h35, le36, hb37, st39⟩ := st34.freeze (k := 0) rfl;have hc38 := Cells.of hb37;refine zM st39 (k := 1) X X X (za X (za X zat)) zai X X X<|fun w40 st41=> ?_;obtain ⟨h42, le43, hb44, st46⟩ := st41.freeze (k := 1) rfl;have hc45 := Cells.of hb44;refine zH X X<|Y<|zk<|zd<|U X zo X zbx X X<|have l47:=((le16.t le24).t le36).t le43;M (j := 1) st46.sub (hc11.up l47) X X X zbX X<|Y<|zB<|zd<|zds X X X<|zH X X<|Y ?_;refine zC rfl (fun c48 => ?_) (fun c48 => ?_)
 ·refine zd<|U X zo X zak X X<|M (j := 2) st46.sub (hc11.up l47) X X X zaD X<|zj st46 X X X Tryz.call129 X (zeR st46.sub _ zbv)<|fun r49 w50 h51 le52 st53 q54=> ?_;subst q54;refine zZ X X ?_;refine zaE (d := 25) rfl (fun g55 => ?_) (fun g55 => ?_)
  ·refine Z X X X<|U X zo X zX X X<|Z X X X<|zal (j := 3) st53.sub (hc11.up (l47.t le52)) (us := [.int .i64 (d.at_.chapter), .int .i64 (d.at_.line), .int .i64 (d.at_.word)]) X X zaT zX X X X<|Z X X X<|zA st53.sub (hc38.up (le43.t le52)) X zaT zX X X<|Z X X X<|zi X X (zhx X X Tryz.eqGuardType49 (Tryz.eq_Place d.at_ zdP))<|zW (v := (.bool _)) X X X<|zZ X X ?_;refine zah (d := 31) rfl (fun g56 => ?_) (fun g56 => ?_)
   ·refine Z X X X<|U X zo X zai X X<|Z X X X<|zal (j := 6) st53.sub (hc11.up (l47.t le52)) (us := [zP (d.to.stem), .int .u8 (d.to.mark)]) X X zbV zai X X X<|Z X X X<|zj st53 X X X Tryz.call130 X (zeQ st53.sub (hd := d.to) zbv zer)<|fun r57 w58 h59 le60 st61 q62=> ?_;subst q62;refine zW (v := (.bool _)) X X X<|zZ X X ?_;refine zaE (d := 36) rfl (fun g63 => ?_) (fun g63 => ?_)
    ·refine Z X X X<|U X zo X zn X X<|Z X X X<|M (j := 8) st61.sub (hc11.up ((l47.t le52).t le60)) X X X zz X<|Z X X X<|zds X X X<|zW (v := (.bool _)) X X X<|zH X X<|Y<|zt<|zG<|zc<|zb zco ?_;refine ⟨h59, _, rfl, st61.done, ?_⟩;refine zw ?_;simp_all [zaj]
    refine zQ 3 X<|zU (v := (.bool _)) X X X<|zH X X<|Y<|zt<|zG<|zc<|zb zco ?_;refine ⟨h59, _, rfl, st61.done, ?_⟩;refine zw ?_;simp_all [zaj]
   refine zQ 3 X<|zU (v := (.bool _)) X X X<|zZ X X<|zQ 3 X<|zU (v := (.bool _)) X X X<|zH X X<|Y<|zt<|zG<|zc<|zb zco ?_;refine ⟨h51, _, rfl, st53.done, ?_⟩;refine zw ?_;simp_all [zaj]
  refine zQ 4 X<|zU (v := (.bool _)) X X X<|zZ X X<|zQ 3 X<|zU (v := (.bool _)) X X X<|zZ X X<|zQ 3 X<|zU (v := (.bool _)) X X X<|zH X X<|Y<|zt<|zG<|zc<|zb zco ?_;refine ⟨h51, _, rfl, st53.done, ?_⟩;refine zw ?_;simp_all [zaj]
 refine zd<|zds X X X<|zH X X<|Y ?_;refine zC rfl (fun c64 => ?_) (fun c64 => ?_)
 ·refine zd<|U X zo X zak X X<|M (j := 2) st46.sub (hc11.up l47) X X X zaD X<|zj st46 X X X Tryz.call129 X (zeR st46.sub _ zbv)<|fun r65 w66 h67 le68 st69 q70=> ?_;subst q70;refine zZ X X ?_;refine zaE (d := 46) rfl (fun g71 => ?_) (fun g71 => ?_)
  ·refine Z X X X<|zZ X X<|zW (v := (.bool _)) X X X<|zZ X X ?_;refine zaE (d := 49) rfl (fun g72 => ?_) (fun g72 => ?_)
   ·refine Z X X X<|U X zo X zai X X<|Z X X X<|zal (j := 6) st69.sub (hc11.up (l47.t le68)) (us := [zP (d.to.stem), .int .u8 (d.to.mark)]) X X zbV zai X X X<|Z X X X<|zj st69 X X X Tryz.call130 X (zeQ st69.sub (hd := d.to) zbv zer)<|fun r73 w74 h75 le76 st77 q78=> ?_;subst q78;refine zW (v := (.bool _)) X X X<|zZ X X ?_;refine zaE (d := 54) rfl (fun g79 => ?_) (fun g79 => ?_)
    ·refine Z X X X<|U X zo X zn X X<|Z X X X<|M (j := 8) st77.sub (hc11.up ((l47.t le68).t le76)) X X X zz X<|Z X X X<|zds X X X<|zW (v := (.bool _)) X X X<|zH X X<|Y<|zt<|zG<|zc<|zb zco ?_;refine ⟨h75, _, rfl, st77.done, ?_⟩;refine zw ?_;simp_all [zaj]
    refine zQ 3 X<|zU (v := (.bool _)) X X X<|zH X X<|Y<|zt<|zG<|zc<|zb zco ?_;refine ⟨h75, _, rfl, st77.done, ?_⟩;refine zw ?_;simp_all [zaj]
   refine zQ 3 X<|zU (v := (.bool _)) X X X<|zZ X X<|zQ 3 X<|zU (v := (.bool _)) X X X<|zH X X<|Y<|zt<|zG<|zc<|zb zco ?_;refine ⟨h67, _, rfl, st69.done, ?_⟩;refine zw ?_;simp_all [zaj]
  refine zQ 1 X<|zU (v := (.bool _)) X X X<|zZ X X<|zQ 3 X<|zU (v := (.bool _)) X X X<|zZ X X<|zQ 3 X<|zU (v := (.bool _)) X X X<|zH X X<|Y<|zt<|zG<|zc<|zb zco ?_;refine ⟨h67, _, rfl, st69.done, ?_⟩;refine zw ?_;simp_all [zaj]
 refine zd<|zds X X X<|zH X X<|Y ?_;refine zC rfl (fun c80 => ?_) (fun c80 => ?_)
 ·refine zd<|U X zo X zak X X<|M (j := 2) st46.sub (hc11.up l47) X X X zaD X<|v_seql X X X<|zZ X X ?_;refine zah (d := 64) rfl (fun g81 => ?_) (fun g81 => ?_)
  ·refine Z X X X<|zZ X X<|zW (v := (.bool _)) X X X<|zZ X X ?_;refine zaE (d := 67) rfl (fun g82 => ?_) (fun g82 => ?_)
   ·refine Z X X X<|U X zo X zai X X<|Z X X X<|zal (j := 6) st46.sub (hc11.up l47) (us := [zP (d.to.stem), .int .u8 (d.to.mark)]) X X zbV zai X X X<|Z X X X<|zj st46 X X X Tryz.call130 X (zeQ st46.sub (hd := d.to) zbv zer)<|fun r83 w84 h85 le86 st87 q88=> ?_;subst q88;refine zW (v := (.bool _)) X X X<|zZ X X ?_;refine zaE (d := 72) rfl (fun g89 => ?_) (fun g89 => ?_)
    ·refine Z X X X<|U X zo X zn X X<|Z X X X<|M (j := 8) st87.sub (hc11.up (l47.t le86)) X X X zz X<|Z X X X<|zds X X X<|zW (v := (.bool _)) X X X<|zH X X<|Y<|zt<|zG<|zc<|zb zco ?_;refine ⟨h85, _, rfl, st87.done, ?_⟩;refine zw ?_;simp_all [zaj]
    refine zQ 3 X<|zU (v := (.bool _)) X X X<|zH X X<|Y<|zt<|zG<|zc<|zb zco ?_;refine ⟨h85, _, rfl, st87.done, ?_⟩;refine zw ?_;simp_all [zaj]
   refine zQ 3 X<|zU (v := (.bool _)) X X X<|zZ X X<|zQ 3 X<|zU (v := (.bool _)) X X X<|zH X X<|Y<|zt<|zG<|zc<|zb zco ?_;refine ⟨h42, _, rfl, st46.done, ?_⟩;refine zw ?_;simp_all [zaj]
  refine zQ 1 X<|zU (v := (.bool _)) X X X<|zZ X X<|zQ 3 X<|zU (v := (.bool _)) X X X<|zZ X X<|zQ 3 X<|zU (v := (.bool _)) X X X<|zH X X<|Y<|zt<|zG<|zc<|zb zco ?_;refine ⟨h42, _, rfl, st46.done, ?_⟩;refine zw ?_;simp_all [zaj]
 refine zd<|zds X X X<|zH X X<|Y ?_;refine zC rfl (fun c90 => ?_) (fun c90 => ?_)
 ·refine zd<|U X zo X zak X X<|M (j := 2) st46.sub (hc11.up l47) X X X zaD X<|v_seql X X X<|zZ X X ?_;refine zah (d := 82) rfl (fun g91 => ?_) (fun g91 => ?_)
  ·refine Z X X X<|U X zo X zX X X<|Z X X X<|zal (j := 3) st46.sub (hc11.up l47) (us := [.int .i64 (d.at_.chapter), .int .i64 (d.at_.line), .int .i64 (d.at_.word)]) X X zaT zX X X X<|Z X X X<|zA st46.sub (hc38.up le43) X zaT zX X X<|Z X X X<|zi X X (zhx X X Tryz.eqGuardType49 (Tryz.eq_Place d.at_ zdP))<|zW (v := (.bool _)) X X X<|zZ X X ?_;refine zah (d := 88) rfl (fun g92 => ?_) (fun g92 => ?_)
   ·refine Z X X X<|U X zo X zai X X<|Z X X X<|zal (j := 6) st46.sub (hc11.up l47) (us := [zP (d.to.stem), .int .u8 (d.to.mark)]) X X zbV zai X X X<|Z X X X<|zA st46.sub hc45 X zbV zai X X<|Z X X X<|zi X X (zhx X X Tryz.eqGuardType51 (Tryz.eq_Head d.to zdD))<|zW (v := (.bool _)) X X X<|zZ X X ?_;refine zah (d := 94) rfl (fun g93 => ?_) (fun g93 => ?_)
    ·refine Z X X X<|U X zo X zn X X<|Z X X X<|M (j := 8) st46.sub (hc11.up l47) X X X zz X<|Z X X X<|U X zo X zn X X<|Z X X X<|M (j := 0) st46.sub (hc11.up l47) X X X zz X<|Z X X X<|ziB X X zaP X<|Z X X X<|zj st46 X X X Tryz.call127 X (zdL st46.sub _ _ _)<|fun r94 w95 h96 le97 st98 q99=> ?_;subst q99;refine zW (v := (.bool _)) X X X<|zH X X<|Y<|zt<|zG<|zc<|zb zco ?_;refine ⟨h96, _, rfl, st98.done, ?_⟩;refine zw ?_;simp_all [zaj]
    refine zQ 6 X<|zU (v := (.bool _)) X X X<|zH X X<|Y<|zt<|zG<|zc<|zb zco ?_;refine ⟨h42, _, rfl, st46.done, ?_⟩;refine zw ?_;simp_all [zaj]
   refine zQ 4 X<|zU (v := (.bool _)) X X X<|zZ X X<|zQ 6 X<|zU (v := (.bool _)) X X X<|zH X X<|Y<|zt<|zG<|zc<|zb zco ?_;refine ⟨h42, _, rfl, st46.done, ?_⟩;refine zw ?_;simp_all [zaj]
  refine zQ 4 X<|zU (v := (.bool _)) X X X<|zZ X X<|zQ 4 X<|zU (v := (.bool _)) X X X<|zZ X X<|zQ 6 X<|zU (v := (.bool _)) X X X<|zH X X<|Y<|zt<|zG<|zc<|zb zco ?_;refine ⟨h42, _, rfl, st46.done, ?_⟩;refine zw ?_;simp_all [zaj]
 refine zx<|zK<|E<|zd<|zH X X<|Y<|zt<|zb zco ?_;refine ⟨h42, _, rfl, st46.done, ?_⟩;refine zw ?_;simp_all [zaj]
theorem c_postilref04_Lexicon {h : Heap} {w : World} (hs : Sub h w) {t : Text} {t_v0 : Value} (t_f0 : Sl LChapter h t_v0 t.chapters) {x : Lexicon} {x_v0 : Value} (x_f0 : Sl LRule h x_v0 x.rules) {x_v1 : Value} (x_f1 : Sl LDecision h x_v1 x.decisions) : Calls Tryz.prog 38 #[.agg #[t_v0], .agg #[x_v0, x_v1]] w (Rets h w (fun _ _ res_ => res_ = .bool (zcG t x))) := by
 refine zN (n := 65) Tryz.func38 X X X<|have st0:=zbk hs;have t_f0_b:=t_f0.le;have x_f0_b:=x_f0.le;have x_f1_b:=x_f1.le;zd<|zJ st0 (cs := [t_v0]) X X X<|fun b1 w2 h3 le4 hc5 st6=>zJ st6 (cs := [x_v0, x_v1]) X X X<|fun b7 w8 h9 le10 hc11 st12=>zH X X<|Y<|zk<|zd<|U X zaB X zdn X X<|M (j := 0) st12.sub hc11 X X X zec X<|have l13:=le4.t le10;zaH (x_f0.up l13) X zbF X<|zdE X X X<|zZ X X ?_;refine zah (d := 12) rfl (fun g14 => ?_) (fun g14 => ?_)
 ·refine zQ 4 X<|zW (v := (.bool _)) X X X<|Y ?_;refine zae rfl (fun c15 => ?_) (fun c15 => ?_)
  ·refine zd<|zH X X<|Y<|zt<|zc<|zb zgD ?_;refine ⟨h9, _, rfl, st12.done, ?_⟩;refine zw ?_;have q := g14;simp [zcG]
   intros
   omega
  cases c15
 refine Z X X X<|U X zaB X zct X X<|Z X X X<|M (j := 1) st12.sub hc11 X X X zdj X<|Z X X X<|zaH (x_f1.up l13) X zaV X<|Z X X X<|zdE X X X<|zU (v := (.bool _)) X X X<|Y ?_;refine zC rfl (fun c16 => ?_) (fun c16 => ?_)
 ·refine zd<|zH X X<|Y<|zt<|zc<|zb zgD ?_;refine ⟨h9, _, rfl, st12.done, ?_⟩;refine zw ?_;have q := c16;simp [zcG]
  intros
  omega
 refine zx<|E<|zk<|zd<|zr X X<|Y<|zB ?_;refine zaq ([4, 5] ++ zbQ 18 14) (G := Nat × Heap) (fun ⟨i, h17⟩ => [(5, .int .i64 (i : Int))]) (fun ⟨i, h17⟩ w' => Le h9 h17 ∧ St h w h17 w' [] ∧ (i ≤ x.rules.length) ∧ ((x.rules.take i).all zhD = true)) (fun ⟨i, h17⟩ => x.rules.length - i) ⟨0, h9⟩ ⟨rfl, trivial⟩ ⟨Le.refl _, st12, zaS, zaS⟩ ?_;rintro ⟨i, h17⟩ _ w20 ⟨le18, st19, hi, hR⟩;refine zk<|zd<|zh X X<|U X zaB X zdn X X<|M (j := 0) st19.sub (hc11.up le18) X X X zec X<|have l21:=l13.t le18;zaH (x_f0.up l21) X zbF X<|zaR X X X<|Y ?_;refine zC rfl (fun c22 => ?_) (fun c22 => ?_)
 ·refine zx<|E<|zk<|zB<|zd<|U X zaB X zdn X X<|M (j := 0) st19.sub (hc11.up le18) X X X zec X<|zh X X ?_;obtain ⟨r, hr⟩ : ∃ y_, (x.rules)[i]? = some y_ := zbw zq;obtain ⟨b23, o24, _, he26, hc25, hr_r⟩ := Sl.elem (x_f0.up l21) hr;obtain ⟨rfl, ls27, ls28⟩ := hr_r;simp only [big] at ls27;simp only [big] at ls28;refine zS he26 X X (hk := X) (hu := zbF) (hz := zdx) X<|zA st19.sub hc25 X Tryz.isAgg122 zdx X X<|zj st19 X X X Tryz.call87 X (c_postilref04_Rule st19.sub (r := r) zbv zbv)<|fun r29 w30 h31 le32 st33 q34=> ?_;subst q34;refine zbE X X<|Y ?_;refine zae rfl (fun c35 => ?_) (fun c35 => ?_)
  ·refine zd<|zH X X<|Y<|zt<|zG<|zc<|zc<|zG<|zc<|zb zgD ?_;refine ⟨h31, _, rfl, st33.done, ?_⟩;refine zw ?_;have q := zcN (p := zhD) hr (by simpa using c35);simp [zcG, q]
  refine zx<|zK<|E<|zl<|zh X X<|zaI X X zaP X<|zr X X<|Y ?_;refine ⟨⟨i + 1, h31⟩, ⟨rfl, trivial⟩, ?_, ⟨(le18.t le32), st33, ?_, ?_⟩, ?_⟩
  ·exact zap
  ·first | omega | (simp; omega)
  ·exact zcx hR hr (by simpa using c35)
  show x.rules.length - ((i + 1)) < x.rules.length - i;omega
 refine zaC<|zm<|zm<|zag<|E<|zk<|zd<|zr X X<|Y<|zB ?_;refine zaq ([4, 6, 7] ++ zbQ 32 33) (G := Nat × Heap) (fun ⟨i, h36⟩ => [(6, .int .i64 (i : Int))]) (fun ⟨i, h36⟩ w' => Le h17 h36 ∧ St h w h36 w' [] ∧ (i ≤ x.decisions.length) ∧ ((x.decisions.take i).all (zaj t) = true) ∧ (((x.decisions.take i).map (·.number)).Nodup)) (fun ⟨i, h36⟩ => x.decisions.length - i) ⟨0, h17⟩ ⟨rfl, trivial⟩ ⟨Le.refl _, st19, zaS, zaS, zaS⟩ ?_;rintro ⟨i, h36⟩ _ w39 ⟨le37, st38, hi, hD, hN⟩;refine zk<|zd<|zh X X<|U X zaB X zct X X<|M (j := 1) st38.sub (hc11.up (le18.t le37)) X X X zdj X<|have l40:=l21.t le37;zaH (x_f1.up l40) X zaV X<|zaR X X X<|Y ?_;refine zC rfl (fun c41 => ?_) (fun c41 => ?_)
 ·refine zx<|E<|zk<|zB<|zk<|zk<|zbL Tryz.mixed O (Cls h36 _) (Cls.drew st38)<|zD X X (fun _ hC => (zaF hC.sub (hc5.up ((le10.t le18).t le37)) X zbl zaw X))<|zY X zaB X zct X X<|zD X X (fun _ hC => (zg (j := 1) hC.sub (hc11.up (le18.t le37)) X X X zdj))<|zdf X X ?_;obtain ⟨d, hd⟩ : ∃ y_, (x.decisions)[i]? = some y_ := zbw zq;obtain ⟨b42, o43, _, he45, hc44, hr_d⟩ := Sl.elem (x_f1.up l40) hd;obtain ⟨rfl, lu46, ls47, ls48, lu49⟩ := hr_d;simp only [big] at ls47;simp only [big] at ls48;refine zbH he45 X X (hk := X) (hu := zaV) (hz := zaa) X<|zD X X (fun _ hC => (zaF hC.sub hc44 X zba zaa X))<|zcM X X (fun _ => zbb X Tryz.call88 X) (fun _ hC => Rets.quiet hC (zjz hC.sub (t := t) (t_f0.up l40) (d := d) zer zbv zbv zer))<|u_not X X<|zbt ?_;rintro w50 ⟨h51, s52⟩;have st53 := st38.call0 s52;refine E ?_;refine zae rfl (fun c54 => ?_) (fun c54 => ?_)
  ·refine zd<|zH X X<|Y<|zt<|zc<|zG<|zc<|zc<|zG<|zc<|zb zgD ?_;refine ⟨h51, _, rfl, st53.done, ?_⟩;refine zw ?_;have q := zcN (p := zaj t) hd (by simpa using c54);simp [zcG, q]
  refine zx<|E<|zd<|zr X X<|Y<|zB ?_;refine zaq ([4, 7] ++ zbQ 47 18) (G := Nat × Heap) (fun ⟨k, h55⟩ => [(7, .int .i64 (k : Int))]) (fun ⟨k, h55⟩ w' => Le h51 h55 ∧ St h w h55 w' [] ∧ (k ≤ i) ∧ (∀ j c2, j < k → x.decisions[j]? = some c2 → c2.number ≠ d.number)) (fun ⟨k, h55⟩ => i - k) ⟨0, h51⟩ ⟨rfl, trivial⟩ ⟨Le.refl _, st53, zaS, (by intro j _ hj; omega)⟩ ?_;rintro ⟨k, h55⟩ _ w58 ⟨le56, st57, hk, hq⟩;refine zk<|zd<|zh X X<|zh X X<|zaR X X X<|Y ?_;refine zC rfl (fun c59 => ?_) (fun c59 => ?_)
  ·refine zx<|E<|zk<|zB<|zk<|zbL Tryz.mixed O (Cls h55 _) (Cls.drew st57)<|zY X zaB X zct X X<|have l60:=((le18.t le37).trans s52.le).t le56;zD X X (fun _ hC => (zg (j := 1) hC.sub (hc11.up l60) X X X zdj))<|zdf X X ?_;obtain ⟨e, he⟩ : ∃ y_, (x.decisions)[k]? = some y_ := zbw zq;have l65 := (l40.trans s52.le).t le56;obtain ⟨b61, o62, _, he64, hc63, hr_e⟩ := Sl.elem (x_f1.up l65) he;obtain ⟨rfl, lu66, ls67, ls68, lu69⟩ := hr_e;simp only [big] at ls67;simp only [big] at ls68;refine zbH he64 X X (hk := X) (hu := zaV) (hz := zaa) X<|zY X zo X zn X X<|zD X X (fun _ hC => (zg (j := 0) hC.sub hc63 X X X zz))<|zY X zaB X zct X X<|zD X X (fun _ hC => (zg (j := 1) hC.sub (hc11.up l60) X X X zdj))<|zdf X X<|zbH he45 X X (hk := X) (hu := zaV) (hz := zaa) X<|zY X zo X zn X X<|zD X X (fun _ hC => (zg (j := 0) hC.sub (hc44.up (s52.le.t le56)) X X X zz))<|u_eql X X X<|zbt ?_;rintro w70 ⟨h71, s72⟩;have st73 := st57.call0 s72;refine E ?_;refine zC rfl (fun c74 => ?_) (fun c74 => ?_)
   ·refine zd<|zH X X<|Y<|zt<|zG<|zc<|zc<|zG<|zG<|zc<|zc<|zG<|zc<|zb zgD ?_;refine ⟨h71, _, rfl, st73.done, ?_⟩;refine zw ?_;have q := zja (f := (·.number)) he hd zq (by assumption);simp [zcG, q]
   refine zx<|zK<|E<|zl<|zh X X<|zaI X X zaP X<|zr X X<|Y ?_;refine ⟨⟨k + 1, h71⟩, ⟨rfl, trivial⟩, ?_, ⟨(le56.trans s72.le), st73, ?_, ?_⟩, ?_⟩
   ·exact zap
   ·first | omega | (simp; omega)
   ·intro j c2 h1 h2
    rcases Nat.lt_or_ge j k with h3 | h3
    ·exact hq j c2 h3 h2
    ·obtain rfl : j = k := by omega
     rw [h2] at he; cases he; assumption
   show i - ((k + 1)) < i - k;omega
  refine zaC<|zm<|zm<|zag<|zK<|E<|zl<|zh X X<|zaI X X zaP X<|zr X X<|Y ?_;have HD : zaj t d = true := by simpa using c54
  refine ⟨⟨i + 1, h55⟩, ⟨rfl, trivial⟩, ?_, ⟨((le37.trans s52.le).t le56), st57, ?_, ?_, ?_⟩, ?_⟩
  ·exact zap
  ·first | omega | (simp; omega)
  ·exact zcx hD hd HD
  ·exact nodup_take_succ hN hd zq (fun j c2 h1 h2 => hq j c2 zq h2)
  show x.decisions.length - ((i + 1)) < x.decisions.length - i;omega
 refine zaC<|zm<|zm<|zag<|E<|zd<|zH X X<|Y<|zt<|zb zgD ?_;refine ⟨h36, _, rfl, st38.done, ?_⟩;refine zw ?_;have q1 := zdh hR zq;have q2 := zdh hD zq;have q3 : x.decisions.take i = x.decisions := List.take_of_length_le zq;rw [q3] at hN;simp [zcG, q1, q2, hN];omega
theorem c_postilref04_Check {h : Heap} {w : World} (hs : Sub h w) {t : Text} {t_v0 : Value} (t_f0 : Sl LChapter h t_v0 t.chapters) {x : Lexicon} {x_v0 : Value} (x_f0 : Sl LRule h x_v0 x.rules) {x_v1 : Value} (x_f1 : Sl LDecision h x_v1 x.decisions) : Calls Tryz.prog 119 #[.agg #[t_v0], .agg #[x_v0, x_v1]] w (Rets h w (fun _ _ res_ => res_ = .int .i64 (zaW t x))) := by
 refine zN (n := 15) Tryz.func119 X X X<|have st0:=zbk hs;have t_f0_b:=t_f0.le;have x_f0_b:=x_f0.le;have x_f1_b:=x_f1.le;zd<|zJ st0 (cs := [t_v0]) X X X<|fun b1 w2 h3 le4 hc5 st6=>zJ st6 (cs := [x_v0, x_v1]) X X X<|fun b7 w8 h9 le10 hc11 st12=>zr X X<|Y<|zk<|zd<|zA st12.sub (hc5.up le10) X zbl zaw X X<|have l13:=le4.t le10;zj st12 X X X Tryz.call163 X (c_postilref01_Check st12.sub (t := t) (t_f0.up l13))<|fun r14 w15 h16 le17 st18 q19=> ?_;subst q19;refine zr X X<|Y<|zd<|zh X X<|zcR X X X<|Y ?_;refine zC rfl (fun c20 => ?_) (fun c20 => ?_)
 ·refine zd<|zh X X<|zr X X<|Y<|zt<|zc<|zb Tryz.results119 ?_;refine ⟨h16, _, rfl, st18.done, ?_⟩;refine zaf ?_;simp_all [zaW]
 refine zx<|E<|zk<|zd<|zA st18.sub (hc5.up (le10.t le17)) X zbl zaw X X<|zA st18.sub (hc11.up le17) X zbY zaL X X<|have l21:=l13.t le17;zj st18 X X X Tryz.call38 X (c_postilref04_Lexicon st18.sub (t := t) (t_f0.up l21) (x := x) (x_f0.up l21) (x_f1.up l21))<|fun r22 w23 h24 le25 st26 q27=> ?_;subst q27;refine zbE X X<|Y ?_;refine zae rfl (fun c28 => ?_) (fun c28 => ?_)
 ·refine zd<|zr X X<|Y<|zt<|zc<|zb Tryz.results119 ?_;refine ⟨h24, _, rfl, st26.done, ?_⟩;refine zaf ?_;simp_all [zaW]
 refine zx<|E<|zd<|zr X X<|Y<|zt<|zb Tryz.results119 ?_;refine ⟨h24, _, rfl, st26.done, ?_⟩;refine zaf ?_;simp_all [zaW]
end Go.Pk

namespace Go.Pk
open Go Go.RowKit Go.Proofs
end Go.Pk

namespace Go.Pk
open Go Go.RowKit Go.Proofs
theorem zhq {xs : List Int} {v : Value} {g : FuncId} {caps : List Value} (S : Nat → Heap → World → Prop) (p : Nat → Bool)
  (hS : ∀ k h w, S k h w → Sub h w ∧ Sl LInt h v xs)
  (hf : ∀ k x h w vs, S k h w → xs[k]? = some x → LInt.R h vs x → ∀ u, vs = [u] → Calls Tryz.prog g (u :: caps).toArray w (fun e w' => ∃ h', e = .returned (.bool (p k)) ∧ S (k + 1) h' w'))
  (hg : ∀ a w, (callFunc g a).run Tryz.prog w = .ok (.enter g a) w) {h : Heap} {w : World} (h0 : S 0 h w) :
  Calls Tryz.prog 136 #[v, .func (.func g) #[] caps.toArray] w (fun e w' => ∃ h' k, e = .returned (.int .i64 (if k < xs.length then (k : Int) else -1)) ∧ k ≤ xs.length ∧ (∀ j, j < k → p j = false) ∧ (k < xs.length → p k = true) ∧ S (if k < xs.length then k + 1 else k) h' w') := by
 refine zN (n := 19) Tryz.func136 X X X<|have hb:=(hS 0 h w h0).2.le;zd<|zr X X<|Y<|zk<|zd<|zO (v := v) X X<|zaH (hS 0 h w h0).2 X zf X<|zh X X<|Y<|zB ?_;refine zaq ([4, 5] ++ zbQ 8 11) (G := Nat × Heap) (fun ⟨k, _⟩ => [(8, .int .i64 (k : Int))]) (fun ⟨k, h'⟩ w' => S k h' w' ∧ k ≤ xs.length ∧ ∀ j, j < k → p j = false) (fun ⟨k, _⟩ => xs.length - k) ⟨0, h⟩ ⟨rfl, trivial⟩ ⟨h0, by omega, by intros; omega⟩ ?_;rintro ⟨k, h1⟩ _ w1 ⟨hS1, hk, hp⟩;obtain ⟨hsub, hsl⟩ := hS k h1 w1 hS1;refine zd<|zaR X X X<|Y<|zk ?_;refine zae rfl (fun c1 => ?_) (fun c1 => ?_)
 ·replace c1 := zhC c1;refine zx<|E<|zk<|zB<|zd<|zh X X<|zr X X<|Y<|zd<|zhB X X<|zO (v := v) X X<|zh X X ?_;have hy : ∃ y, xs[k]? = some y := ⟨_, List.getElem?_eq_getElem zq⟩;obtain ⟨y, hy⟩ := hy;obtain ⟨b, o, vs, he, hc, hr⟩ := Sl.elem hsl hy;refine zS he X X (hk := X) (hu := zf) (hz := zn) X ?_;obtain ⟨u, rfl⟩ : ∃ u, vs = [u] := by
   have q := LInt.len hr
   match vs, q with
   | [u], _ => exact ⟨u, rfl⟩
  refine M (j := 0) hsub hc X X X zz X ?_;refine zaJ rfl rfl (zcb (fs := []) (cs := caps) rfl rfl hg rfl) ((hf k y h1 w1 _ hS1 hy hr _ rfl).mono ?_);rintro e w2 ⟨h2, rfl, hS2⟩;refine ⟨_, rfl, ?_⟩;refine Y ?_;refine zae rfl (fun c2 => ?_) (fun c2 => ?_)
  ·refine zk ?_;refine zl<|zh X X<|zr X X<|Y<|zt ?_
   repeat (first | refine zG ?_ | refine zc ?_)
   refine zb Tryz.results136 ?_;have hlt : k < xs.length := by omega
   exact ⟨h2, k, by rw [if_pos hlt]; rfl, hk, hp, fun _ => c2, by rw [if_pos hlt]; exact hS2⟩
  ·refine zx ?_;refine zK<|E<|zl ?_;refine zi rfl rfl (ziZ rfl rfl zq) ?_;refine zh X X<|Y ?_;refine ⟨⟨k + 1, h2⟩, ⟨rfl, trivial⟩, ?_, ⟨hS2, by omega, ?_⟩, ?_⟩
   ·exact zap
   ·intro j hj
    rcases Nat.lt_or_ge j k with h3 | h3
    ·exact hp j h3
    ·obtain rfl : j = k := by omega
     exact c2
   ·show xs.length - (k + 1) < xs.length - k;omega
 ·replace c1 := t_of c1;refine zaC<|zm<|zm<|zag<|E<|zd<|zr X X<|Y<|zt<|zb Tryz.results136 ?_;have hlt : ¬ k < xs.length := by omega
  exact ⟨h1, k, by rw [if_neg hlt]; rfl, hk, hp, fun q => absurd q hlt, by rw [if_neg hlt]; exact hS1⟩

theorem zgH {xs : List Int} {v : Value} {g : FuncId} {caps : List Value} (S : Nat → Heap → World → Prop) (p : Nat → Bool)
  (hS : ∀ k h w, S k h w → Sub h w ∧ Sl LInt h v xs)
  (hf : ∀ k x h w vs, S k h w → xs[k]? = some x → LInt.R h vs x → ∀ u, vs = [u] → Calls Tryz.prog g (u :: caps).toArray w (fun e w' => ∃ h', e = .returned (.bool (p k)) ∧ S (k + 1) h' w'))
  (hg : ∀ a w, (callFunc g a).run Tryz.prog w = .ok (.enter g a) w) {h : Heap} {w : World} (h0 : S 0 h w) :
  Calls Tryz.prog 97 #[v, .func (.func g) #[] caps.toArray] w (fun e w' => ∃ h' k, e = .returned (.bool (decide (k < xs.length))) ∧ k ≤ xs.length ∧ (∀ j, j < k → p j = false) ∧ (k < xs.length → p k = true) ∧ S (if k < xs.length then k + 1 else k) h' w') := by
 refine zN (n := 9) Tryz.func97 X X X<|zd<|zH X X<|Y<|zd<|zO (v := v) X X<|zhB X X ?_;refine zaJ rfl rfl (zbb rfl Tryz.call136 rfl) ((zhq S p hS hf hg h0).mono ?_);rintro e w2 ⟨h2, k, rfl, q1, q2, q3, q4⟩;refine ⟨_, rfl, ?_⟩;refine zih X X X<|zH X X<|Y<|zt<|zb Tryz.results97 ?_;refine ⟨h2, k, congrArg Ending.returned (zw ?_), q1, q2, q3, q4⟩
 by_cases hlt : k < xs.length
 ·simp [hlt]
 ·simp [hlt]
theorem zdC {xs : List Int} {v : Value} {g : FuncId} {caps : List Value} {h : Heap} {w : World} (hs : Sub h w) (hx : Sl LInt h v xs) (q : Int → Bool)
  (hg : ∀ a w, (callFunc g a).run Tryz.prog w = .ok (.enter g a) w)
  (hf : ∀ x h' w' vs, Le h h' → Sub h' w' → x ∈ xs → LInt.R h' vs x → ∀ u, vs = [u] → Calls Tryz.prog g (u :: caps).toArray w' (Rets h' w' fun _ _ r => r = .bool (q x))) :
  Calls Tryz.prog 97 #[v, .func (.func g) #[] caps.toArray] w (Rets h w fun _ _ r => r = .bool (xs.any q)) := by
 refine (zgH (fun k h' w' => St h w h' w' [] ∧ k ≤ xs.length) (fun k => ((xs[k]?).map q).getD false) (fun k h' w' hk => ⟨hk.1.sub, hx.up hk.1.le⟩) ?_ hg ⟨St.start hs, Nat.zero_le _⟩).mono ?_
 ·rintro k x h' w' vs ⟨st, _⟩ hk hr u hu;refine (hf x h' w' vs st.le st.sub (List.mem_of_getElem? hk) hr u hu).mono ?_;rintro e w'' ⟨h'', r, rfl, s, rfl⟩;obtain ⟨hlt, _⟩ := List.getElem?_eq_some_iff.1 hk;exact ⟨h'', by simp [hk], st.call0 s, hlt⟩
 ·rintro e w' ⟨h', k, rfl, q1, q2, q3, q4⟩;refine ⟨h', _, rfl, q4.1, zw ?_⟩
  by_cases hlt : k < xs.length
  ·have h3 := q3 hlt;rw [List.getElem?_eq_getElem hlt] at h3;simp only [Option.map_some, Option.getD_some] at h3;have : xs.any q = true := List.any_eq_true.2 ⟨_, List.getElem_mem hlt, h3⟩;simp [hlt, this]
  ·have : xs.any q = false := by
    rw [List.any_eq_false];intro x hx';obtain ⟨j, hj⟩ := List.mem_iff_getElem?.1 hx';obtain ⟨h5, _⟩ := List.getElem?_eq_some_iff.1 hj;have := q2 j zq;simpa [hj] using this
   simp [hlt, this]

theorem zgU {xs : List Int} {v : Value} {g : FuncId} {caps : List Value} (S : Nat → Heap → World → Prop) (p : Nat → Bool)
  (hS : ∀ k h w, S k h w → Sub h w ∧ Sl LU8 h v xs)
  (hf : ∀ k x h w vs, S k h w → xs[k]? = some x → LU8.R h vs x → ∀ u, vs = [u] → Calls Tryz.prog g (u :: caps).toArray w (fun e w' => ∃ h', e = .returned (.bool (p k)) ∧ S (k + 1) h' w'))
  (hg : ∀ a w, (callFunc g a).run Tryz.prog w = .ok (.enter g a) w) {h : Heap} {w : World} (h0 : S 0 h w) :
  Calls Tryz.prog 160 #[v, .func (.func g) #[] caps.toArray] w (fun e w' => ∃ h' k, e = .returned (.int .i64 (if k < xs.length then (k : Int) else -1)) ∧ k ≤ xs.length ∧ (∀ j, j < k → p j = false) ∧ (k < xs.length → p k = true) ∧ S (if k < xs.length then k + 1 else k) h' w') := by
 refine zN (n := 19) Tryz.func160 X X X<|have hb:=(hS 0 h w h0).2.le;zd<|zr X X<|Y<|zk<|zd<|zO (v := v) X X<|zaH (hS 0 h w h0).2 X Tryz.underlying193 X<|zh X X<|Y<|zB ?_;refine zaq ([4, 5] ++ zbQ 8 11) (G := Nat × Heap) (fun ⟨k, _⟩ => [(8, .int .i64 (k : Int))]) (fun ⟨k, h'⟩ w' => S k h' w' ∧ k ≤ xs.length ∧ ∀ j, j < k → p j = false) (fun ⟨k, _⟩ => xs.length - k) ⟨0, h⟩ ⟨rfl, trivial⟩ ⟨h0, by omega, by intros; omega⟩ ?_;rintro ⟨k, h1⟩ _ w1 ⟨hS1, hk, hp⟩;obtain ⟨hsub, hsl⟩ := hS k h1 w1 hS1;refine zd<|zaR X X X<|Y<|zk ?_;refine zae rfl (fun c1 => ?_) (fun c1 => ?_)
 ·replace c1 := zhC c1;refine zx<|E<|zk<|zB<|zd<|zh X X<|zr X X<|Y<|zd<|zhB X X<|zO (v := v) X X<|zh X X ?_;have hy : ∃ y, xs[k]? = some y := ⟨_, List.getElem?_eq_getElem zq⟩;obtain ⟨y, hy⟩ := hy;obtain ⟨b, o, vs, he, hc, hr⟩ := Sl.elem hsl hy;refine zS he X X (hk := X) (hu := Tryz.underlying193) (hz := zbx) X ?_;obtain ⟨u, rfl⟩ : ∃ u, vs = [u] := by
   have q := LU8.len hr
   match vs, q with
   | [u], _ => exact ⟨u, rfl⟩
  refine M (j := 0) hsub hc X X X zbX X ?_;refine zaJ rfl rfl (zcb (fs := []) (cs := caps) rfl rfl hg rfl) ((hf k y h1 w1 _ hS1 hy hr _ rfl).mono ?_);rintro e w2 ⟨h2, rfl, hS2⟩;refine ⟨_, rfl, ?_⟩;refine Y ?_;refine zae rfl (fun c2 => ?_) (fun c2 => ?_)
  ·refine zk ?_;refine zl<|zh X X<|zr X X<|Y<|zt ?_
   repeat (first | refine zG ?_ | refine zc ?_)
   refine zb Tryz.results160 ?_;have hlt : k < xs.length := by omega
   exact ⟨h2, k, by rw [if_pos hlt]; rfl, hk, hp, fun _ => c2, by rw [if_pos hlt]; exact hS2⟩
  ·refine zx ?_;refine zK<|E<|zl ?_;refine zi rfl rfl (ziZ rfl rfl zq) ?_;refine zh X X<|Y ?_;refine ⟨⟨k + 1, h2⟩, ⟨rfl, trivial⟩, ?_, ⟨hS2, by omega, ?_⟩, ?_⟩
   ·exact zap
   ·intro j hj
    rcases Nat.lt_or_ge j k with h3 | h3
    ·exact hp j h3
    ·obtain rfl : j = k := by omega
     exact c2
   ·show xs.length - (k + 1) < xs.length - k;omega
 ·replace c1 := t_of c1;refine zaC<|zm<|zm<|zag<|E<|zd<|zr X X<|Y<|zt<|zb Tryz.results160 ?_;have hlt : ¬ k < xs.length := by omega
  exact ⟨h1, k, by rw [if_neg hlt]; rfl, hk, hp, fun q => absurd q hlt, by rw [if_neg hlt]; exact hS1⟩

theorem zgc {xs : List Int} {v : Value} {g : FuncId} {caps : List Value} (S : Nat → Heap → World → Prop) (p : Nat → Bool)
  (hS : ∀ k h w, S k h w → Sub h w ∧ Sl LU8 h v xs)
  (hf : ∀ k x h w vs, S k h w → xs[k]? = some x → LU8.R h vs x → ∀ u, vs = [u] → Calls Tryz.prog g (u :: caps).toArray w (fun e w' => ∃ h', e = .returned (.bool (p k)) ∧ S (k + 1) h' w'))
  (hg : ∀ a w, (callFunc g a).run Tryz.prog w = .ok (.enter g a) w) {h : Heap} {w : World} (h0 : S 0 h w) :
  Calls Tryz.prog 114 #[v, .func (.func g) #[] caps.toArray] w (fun e w' => ∃ h' k, e = .returned (.bool (decide (k < xs.length))) ∧ k ≤ xs.length ∧ (∀ j, j < k → p j = false) ∧ (k < xs.length → p k = true) ∧ S (if k < xs.length then k + 1 else k) h' w') := by
 refine zN (n := 9) Tryz.func114 X X X<|zd<|zH X X<|Y<|zd<|zO (v := v) X X<|zhB X X ?_;refine zaJ rfl rfl (zbb rfl Tryz.call160 rfl) ((zgU S p hS hf hg h0).mono ?_);rintro e w2 ⟨h2, k, rfl, q1, q2, q3, q4⟩;refine ⟨_, rfl, ?_⟩;refine zih X X X<|zH X X<|Y<|zt<|zb Tryz.results114 ?_;refine ⟨h2, k, congrArg Ending.returned (zw ?_), q1, q2, q3, q4⟩
 by_cases hlt : k < xs.length
 ·simp [hlt]
 ·simp [hlt]
theorem zen {xs : List Int} {v : Value} {g : FuncId} {caps : List Value} {h : Heap} {w : World} (hs : Sub h w) (hx : Sl LU8 h v xs) (q : Int → Bool)
  (hg : ∀ a w, (callFunc g a).run Tryz.prog w = .ok (.enter g a) w)
  (hf : ∀ x h' w' vs, Le h h' → Sub h' w' → x ∈ xs → LU8.R h' vs x → ∀ u, vs = [u] → Calls Tryz.prog g (u :: caps).toArray w' (Rets h' w' fun _ _ r => r = .bool (q x))) :
  Calls Tryz.prog 114 #[v, .func (.func g) #[] caps.toArray] w (Rets h w fun _ _ r => r = .bool (xs.any q)) := by
 refine (zgc (fun k h' w' => St h w h' w' [] ∧ k ≤ xs.length) (fun k => ((xs[k]?).map q).getD false) (fun k h' w' hk => ⟨hk.1.sub, hx.up hk.1.le⟩) ?_ hg ⟨St.start hs, Nat.zero_le _⟩).mono ?_
 ·rintro k x h' w' vs ⟨st, _⟩ hk hr u hu;refine (hf x h' w' vs st.le st.sub (List.mem_of_getElem? hk) hr u hu).mono ?_;rintro e w'' ⟨h'', r, rfl, s, rfl⟩;obtain ⟨hlt, _⟩ := List.getElem?_eq_some_iff.1 hk;exact ⟨h'', by simp [hk], st.call0 s, hlt⟩
 ·rintro e w' ⟨h', k, rfl, q1, q2, q3, q4⟩;refine ⟨h', _, rfl, q4.1, zw ?_⟩
  by_cases hlt : k < xs.length
  ·have h3 := q3 hlt;rw [List.getElem?_eq_getElem hlt] at h3;simp only [Option.map_some, Option.getD_some] at h3;have : xs.any q = true := List.any_eq_true.2 ⟨_, List.getElem_mem hlt, h3⟩;simp [hlt, this]
  ·have : xs.any q = false := by
    rw [List.any_eq_false];intro x hx';obtain ⟨j, hj⟩ := List.mem_iff_getElem?.1 hx';obtain ⟨h5, _⟩ := List.getElem?_eq_some_iff.1 hj;have := q2 j zq;simpa [hj] using this
   simp [hlt, this]

theorem zdW {xs : List Str} {v : Value} {g : FuncId} {caps : List Value} (S : Nat → Heap → World → Prop) (p : Nat → Bool)
  (hS : ∀ k h w, S k h w → Sub h w ∧ Sl LStr h v xs)
  (hf : ∀ k x h w vs, S k h w → xs[k]? = some x → LStr.R h vs x → ∀ u, vs = [u] → Calls Tryz.prog g (u :: caps).toArray w (fun e w' => ∃ h', e = .returned (.bool (p k)) ∧ S (k + 1) h' w'))
  (hg : ∀ a w, (callFunc g a).run Tryz.prog w = .ok (.enter g a) w) {h : Heap} {w : World} (h0 : S 0 h w) :
  Calls Tryz.prog 105 #[v, .func (.func g) #[] caps.toArray] w (fun e w' => ∃ h' k, e = .returned (.int .i64 (if k < xs.length then (k : Int) else -1)) ∧ k ≤ xs.length ∧ (∀ j, j < k → p j = false) ∧ (k < xs.length → p k = true) ∧ S (if k < xs.length then k + 1 else k) h' w') := by
 refine zN (n := 19) Tryz.func105 X X X<|have hb:=(hS 0 h w h0).2.le;zd<|zr X X<|Y<|zk<|zd<|zO (v := v) X X<|zaH (hS 0 h w h0).2 X zV X<|zh X X<|Y<|zB ?_;refine zaq ([4, 5] ++ zbQ 8 11) (G := Nat × Heap) (fun ⟨k, _⟩ => [(8, .int .i64 (k : Int))]) (fun ⟨k, h'⟩ w' => S k h' w' ∧ k ≤ xs.length ∧ ∀ j, j < k → p j = false) (fun ⟨k, _⟩ => xs.length - k) ⟨0, h⟩ ⟨rfl, trivial⟩ ⟨h0, by omega, by intros; omega⟩ ?_;rintro ⟨k, h1⟩ _ w1 ⟨hS1, hk, hp⟩;obtain ⟨hsub, hsl⟩ := hS k h1 w1 hS1;refine zd<|zaR X X X<|Y<|zk ?_;refine zae rfl (fun c1 => ?_) (fun c1 => ?_)
 ·replace c1 := zhC c1;refine zx<|E<|zk<|zB<|zd<|zh X X<|zr X X<|Y<|zd<|zhB X X<|zO (v := v) X X<|zh X X ?_;have hy : ∃ y, xs[k]? = some y := ⟨_, List.getElem?_eq_getElem zq⟩;obtain ⟨y, hy⟩ := hy;obtain ⟨b, o, vs, he, hc, hr⟩ := Sl.elem hsl hy;refine zS he X X (hk := X) (hu := zV) (hz := zak) X ?_;obtain ⟨u, rfl⟩ : ∃ u, vs = [u] := by
   have q := LStr.len hr
   match vs, q with
   | [u], _ => exact ⟨u, rfl⟩
  refine M (j := 0) hsub hc X X X zaD X ?_;refine zaJ rfl rfl (zcb (fs := []) (cs := caps) rfl rfl hg rfl) ((hf k y h1 w1 _ hS1 hy hr _ rfl).mono ?_);rintro e w2 ⟨h2, rfl, hS2⟩;refine ⟨_, rfl, ?_⟩;refine Y ?_;refine zae rfl (fun c2 => ?_) (fun c2 => ?_)
  ·refine zk ?_;refine zl<|zh X X<|zr X X<|Y<|zt ?_
   repeat (first | refine zG ?_ | refine zc ?_)
   refine zb Tryz.results105 ?_;have hlt : k < xs.length := by omega
   exact ⟨h2, k, by rw [if_pos hlt]; rfl, hk, hp, fun _ => c2, by rw [if_pos hlt]; exact hS2⟩
  ·refine zx ?_;refine zK<|E<|zl ?_;refine zi rfl rfl (ziZ rfl rfl zq) ?_;refine zh X X<|Y ?_;refine ⟨⟨k + 1, h2⟩, ⟨rfl, trivial⟩, ?_, ⟨hS2, by omega, ?_⟩, ?_⟩
   ·exact zap
   ·intro j hj
    rcases Nat.lt_or_ge j k with h3 | h3
    ·exact hp j h3
    ·obtain rfl : j = k := by omega
     exact c2
   ·show xs.length - (k + 1) < xs.length - k;omega
 ·replace c1 := t_of c1;refine zaC<|zm<|zm<|zag<|E<|zd<|zr X X<|Y<|zt<|zb Tryz.results105 ?_;have hlt : ¬ k < xs.length := by omega
  exact ⟨h1, k, by rw [if_neg hlt]; rfl, hk, hp, fun q => absurd q hlt, by rw [if_neg hlt]; exact hS1⟩

theorem zfn {xs : List Str} {v : Value} {g : FuncId} {caps : List Value} (S : Nat → Heap → World → Prop) (p : Nat → Bool)
  (hS : ∀ k h w, S k h w → Sub h w ∧ Sl LStr h v xs)
  (hf : ∀ k x h w vs, S k h w → xs[k]? = some x → LStr.R h vs x → ∀ u, vs = [u] → Calls Tryz.prog g (u :: caps).toArray w (fun e w' => ∃ h', e = .returned (.bool (p k)) ∧ S (k + 1) h' w'))
  (hg : ∀ a w, (callFunc g a).run Tryz.prog w = .ok (.enter g a) w) {h : Heap} {w : World} (h0 : S 0 h w) :
  Calls Tryz.prog 150 #[v, .func (.func g) #[] caps.toArray] w (fun e w' => ∃ h' k, e = .returned (.bool (decide (k < xs.length))) ∧ k ≤ xs.length ∧ (∀ j, j < k → p j = false) ∧ (k < xs.length → p k = true) ∧ S (if k < xs.length then k + 1 else k) h' w') := by
 refine zN (n := 9) Tryz.func150 X X X<|zd<|zH X X<|Y<|zd<|zO (v := v) X X<|zhB X X ?_;refine zaJ rfl rfl (zbb rfl Tryz.call105 rfl) ((zdW S p hS hf hg h0).mono ?_);rintro e w2 ⟨h2, k, rfl, q1, q2, q3, q4⟩;refine ⟨_, rfl, ?_⟩;refine zih X X X<|zH X X<|Y<|zt<|zb Tryz.results150 ?_;refine ⟨h2, k, congrArg Ending.returned (zw ?_), q1, q2, q3, q4⟩
 by_cases hlt : k < xs.length
 ·simp [hlt]
 ·simp [hlt]
theorem zfX {xs : List Str} {v : Value} {g : FuncId} {caps : List Value} {h : Heap} {w : World} (hs : Sub h w) (hx : Sl LStr h v xs) (q : Str → Bool)
  (hg : ∀ a w, (callFunc g a).run Tryz.prog w = .ok (.enter g a) w)
  (hf : ∀ x h' w' vs, Le h h' → Sub h' w' → x ∈ xs → LStr.R h' vs x → ∀ u, vs = [u] → Calls Tryz.prog g (u :: caps).toArray w' (Rets h' w' fun _ _ r => r = .bool (q x))) :
  Calls Tryz.prog 150 #[v, .func (.func g) #[] caps.toArray] w (Rets h w fun _ _ r => r = .bool (xs.any q)) := by
 refine (zfn (fun k h' w' => St h w h' w' [] ∧ k ≤ xs.length) (fun k => ((xs[k]?).map q).getD false) (fun k h' w' hk => ⟨hk.1.sub, hx.up hk.1.le⟩) ?_ hg ⟨St.start hs, Nat.zero_le _⟩).mono ?_
 ·rintro k x h' w' vs ⟨st, _⟩ hk hr u hu;refine (hf x h' w' vs st.le st.sub (List.mem_of_getElem? hk) hr u hu).mono ?_;rintro e w'' ⟨h'', r, rfl, s, rfl⟩;obtain ⟨hlt, _⟩ := List.getElem?_eq_some_iff.1 hk;exact ⟨h'', by simp [hk], st.call0 s, hlt⟩
 ·rintro e w' ⟨h', k, rfl, q1, q2, q3, q4⟩;refine ⟨h', _, rfl, q4.1, zw ?_⟩
  by_cases hlt : k < xs.length
  ·have h3 := q3 hlt;rw [List.getElem?_eq_getElem hlt] at h3;simp only [Option.map_some, Option.getD_some] at h3;have : xs.any q = true := List.any_eq_true.2 ⟨_, List.getElem_mem hlt, h3⟩;simp [hlt, this]
  ·have : xs.any q = false := by
    rw [List.any_eq_false];intro x hx';obtain ⟨j, hj⟩ := List.mem_iff_getElem?.1 hx';obtain ⟨h5, _⟩ := List.getElem?_eq_some_iff.1 hj;have := q2 j zq;simpa [hj] using this
   simp [hlt, this]

theorem zfh {xs : List Rule} {v : Value} {g : FuncId} {caps : List Value} (S : Nat → Heap → World → Prop) (p : Nat → Bool)
  (hS : ∀ k h w, S k h w → Sub h w ∧ Sl LRule h v xs)
  (hf : ∀ k x h w vs, S k h w → xs[k]? = some x → LRule.R h vs x → ∀ u, u = .agg vs.toArray → Calls Tryz.prog g (u :: caps).toArray w (fun e w' => ∃ h', e = .returned (.bool (p k)) ∧ S (k + 1) h' w'))
  (hg : ∀ a w, (callFunc g a).run Tryz.prog w = .ok (.enter g a) w) {h : Heap} {w : World} (h0 : S 0 h w) :
  Calls Tryz.prog 197 #[v, .func (.func g) #[] caps.toArray] w (fun e w' => ∃ h' k, e = .returned (.int .i64 (if k < xs.length then (k : Int) else -1)) ∧ k ≤ xs.length ∧ (∀ j, j < k → p j = false) ∧ (k < xs.length → p k = true) ∧ S (if k < xs.length then k + 1 else k) h' w') := by
 refine zN (n := 19) Tryz.func197 X X X<|have hb:=(hS 0 h w h0).2.le;zd<|zr X X<|Y<|zk<|zd<|zO (v := v) X X<|zaH (hS 0 h w h0).2 X zbF X<|zh X X<|Y<|zB ?_;refine zaq ([4, 5] ++ zbQ 8 11) (G := Nat × Heap) (fun ⟨k, _⟩ => [(8, .int .i64 (k : Int))]) (fun ⟨k, h'⟩ w' => S k h' w' ∧ k ≤ xs.length ∧ ∀ j, j < k → p j = false) (fun ⟨k, _⟩ => xs.length - k) ⟨0, h⟩ ⟨rfl, trivial⟩ ⟨h0, by omega, by intros; omega⟩ ?_;rintro ⟨k, h1⟩ _ w1 ⟨hS1, hk, hp⟩;obtain ⟨hsub, hsl⟩ := hS k h1 w1 hS1;refine zd<|zaR X X X<|Y<|zk ?_;refine zae rfl (fun c1 => ?_) (fun c1 => ?_)
 ·replace c1 := zhC c1;refine zx<|E<|zk<|zB<|zd<|zh X X<|zr X X<|Y<|zd<|zhB X X<|zO (v := v) X X<|zh X X ?_;have hy : ∃ y, xs[k]? = some y := ⟨_, List.getElem?_eq_getElem zq⟩;obtain ⟨y, hy⟩ := hy;obtain ⟨b, o, vs, he, hc, hr⟩ := Sl.elem hsl hy;refine zS he X X (hk := X) (hu := zbF) (hz := zdx) X<|zA hsub hc X Tryz.isAgg122 zdx (LRule.len hr) X ?_;refine zaJ rfl rfl (zcb (fs := []) (cs := caps) rfl rfl hg rfl) ((hf k y h1 w1 _ hS1 hy hr _ rfl).mono ?_);rintro e w2 ⟨h2, rfl, hS2⟩;refine ⟨_, rfl, ?_⟩;refine Y ?_;refine zae rfl (fun c2 => ?_) (fun c2 => ?_)
  ·refine zk ?_;refine zl<|zh X X<|zr X X<|Y<|zt ?_
   repeat (first | refine zG ?_ | refine zc ?_)
   refine zb Tryz.results197 ?_;have hlt : k < xs.length := by omega
   exact ⟨h2, k, by rw [if_pos hlt]; rfl, hk, hp, fun _ => c2, by rw [if_pos hlt]; exact hS2⟩
  ·refine zx ?_;refine zK<|E<|zl ?_;refine zi rfl rfl (ziZ rfl rfl zq) ?_;refine zh X X<|Y ?_;refine ⟨⟨k + 1, h2⟩, ⟨rfl, trivial⟩, ?_, ⟨hS2, by omega, ?_⟩, ?_⟩
   ·exact zap
   ·intro j hj
    rcases Nat.lt_or_ge j k with h3 | h3
    ·exact hp j h3
    ·obtain rfl : j = k := by omega
     exact c2
   ·show xs.length - (k + 1) < xs.length - k;omega
 ·replace c1 := t_of c1;refine zaC<|zm<|zm<|zag<|E<|zd<|zr X X<|Y<|zt<|zb Tryz.results197 ?_;have hlt : ¬ k < xs.length := by omega
  exact ⟨h1, k, by rw [if_neg hlt]; rfl, hk, hp, fun q => absurd q hlt, by rw [if_neg hlt]; exact hS1⟩

theorem zeH {xs : List Rule} {v : Value} {g : FuncId} {caps : List Value} (S : Nat → Heap → World → Prop) (p : Nat → Bool)
  (hS : ∀ k h w, S k h w → Sub h w ∧ Sl LRule h v xs)
  (hf : ∀ k x h w vs, S k h w → xs[k]? = some x → LRule.R h vs x → ∀ u, u = .agg vs.toArray → Calls Tryz.prog g (u :: caps).toArray w (fun e w' => ∃ h', e = .returned (.bool (p k)) ∧ S (k + 1) h' w'))
  (hg : ∀ a w, (callFunc g a).run Tryz.prog w = .ok (.enter g a) w) {h : Heap} {w : World} (h0 : S 0 h w) :
  Calls Tryz.prog 153 #[v, .func (.func g) #[] caps.toArray] w (fun e w' => ∃ h' k, e = .returned (.bool (decide (k < xs.length))) ∧ k ≤ xs.length ∧ (∀ j, j < k → p j = false) ∧ (k < xs.length → p k = true) ∧ S (if k < xs.length then k + 1 else k) h' w') := by
 refine zN (n := 9) Tryz.func153 X X X<|zd<|zH X X<|Y<|zd<|zO (v := v) X X<|zhB X X ?_;refine zaJ rfl rfl (zbb rfl Tryz.call197 rfl) ((zfh S p hS hf hg h0).mono ?_);rintro e w2 ⟨h2, k, rfl, q1, q2, q3, q4⟩;refine ⟨_, rfl, ?_⟩;refine zih X X X<|zH X X<|Y<|zt<|zb Tryz.results153 ?_;refine ⟨h2, k, congrArg Ending.returned (zw ?_), q1, q2, q3, q4⟩
 by_cases hlt : k < xs.length
 ·simp [hlt]
 ·simp [hlt]
theorem zej {xs : List Decision} {v : Value} {g : FuncId} {caps : List Value} (S : Nat → Heap → World → Prop) (p : Nat → Bool)
  (hS : ∀ k h w, S k h w → Sub h w ∧ Sl LDecision h v xs)
  (hf : ∀ k x h w vs, S k h w → xs[k]? = some x → LDecision.R h vs x → ∀ u, u = .agg vs.toArray → Calls Tryz.prog g (u :: caps).toArray w (fun e w' => ∃ h', e = .returned (.bool (p k)) ∧ S (k + 1) h' w'))
  (hg : ∀ a w, (callFunc g a).run Tryz.prog w = .ok (.enter g a) w) {h : Heap} {w : World} (h0 : S 0 h w) :
  Calls Tryz.prog 199 #[v, .func (.func g) #[] caps.toArray] w (fun e w' => ∃ h' k, e = .returned (.int .i64 (if k < xs.length then (k : Int) else -1)) ∧ k ≤ xs.length ∧ (∀ j, j < k → p j = false) ∧ (k < xs.length → p k = true) ∧ S (if k < xs.length then k + 1 else k) h' w') := by
 refine zN (n := 19) Tryz.func199 X X X<|have hb:=(hS 0 h w h0).2.le;zd<|zr X X<|Y<|zk<|zd<|zO (v := v) X X<|zaH (hS 0 h w h0).2 X zaV X<|zh X X<|Y<|zB ?_;refine zaq ([4, 5] ++ zbQ 8 11) (G := Nat × Heap) (fun ⟨k, _⟩ => [(8, .int .i64 (k : Int))]) (fun ⟨k, h'⟩ w' => S k h' w' ∧ k ≤ xs.length ∧ ∀ j, j < k → p j = false) (fun ⟨k, _⟩ => xs.length - k) ⟨0, h⟩ ⟨rfl, trivial⟩ ⟨h0, by omega, by intros; omega⟩ ?_;rintro ⟨k, h1⟩ _ w1 ⟨hS1, hk, hp⟩;obtain ⟨hsub, hsl⟩ := hS k h1 w1 hS1;refine zd<|zaR X X X<|Y<|zk ?_;refine zae rfl (fun c1 => ?_) (fun c1 => ?_)
 ·replace c1 := zhC c1;refine zx<|E<|zk<|zB<|zd<|zh X X<|zr X X<|Y<|zd<|zhB X X<|zO (v := v) X X<|zh X X ?_;have hy : ∃ y, xs[k]? = some y := ⟨_, List.getElem?_eq_getElem zq⟩;obtain ⟨y, hy⟩ := hy;obtain ⟨b, o, vs, he, hc, hr⟩ := Sl.elem hsl hy;refine zS he X X (hk := X) (hu := zaV) (hz := zaa) X<|zA hsub hc X zba zaa (LDecision.len hr) X ?_;refine zaJ rfl rfl (zcb (fs := []) (cs := caps) rfl rfl hg rfl) ((hf k y h1 w1 _ hS1 hy hr _ rfl).mono ?_);rintro e w2 ⟨h2, rfl, hS2⟩;refine ⟨_, rfl, ?_⟩;refine Y ?_;refine zae rfl (fun c2 => ?_) (fun c2 => ?_)
  ·refine zk ?_;refine zl<|zh X X<|zr X X<|Y<|zt ?_
   repeat (first | refine zG ?_ | refine zc ?_)
   refine zb Tryz.results199 ?_;have hlt : k < xs.length := by omega
   exact ⟨h2, k, by rw [if_pos hlt]; rfl, hk, hp, fun _ => c2, by rw [if_pos hlt]; exact hS2⟩
  ·refine zx ?_;refine zK<|E<|zl ?_;refine zi rfl rfl (ziZ rfl rfl zq) ?_;refine zh X X<|Y ?_;refine ⟨⟨k + 1, h2⟩, ⟨rfl, trivial⟩, ?_, ⟨hS2, by omega, ?_⟩, ?_⟩
   ·exact zap
   ·intro j hj
    rcases Nat.lt_or_ge j k with h3 | h3
    ·exact hp j h3
    ·obtain rfl : j = k := by omega
     exact c2
   ·show xs.length - (k + 1) < xs.length - k;omega
 ·replace c1 := t_of c1;refine zaC<|zm<|zm<|zag<|E<|zd<|zr X X<|Y<|zt<|zb Tryz.results199 ?_;have hlt : ¬ k < xs.length := by omega
  exact ⟨h1, k, by rw [if_neg hlt]; rfl, hk, hp, fun q => absurd q hlt, by rw [if_neg hlt]; exact hS1⟩

theorem zeb {xs : List Decision} {v : Value} {g : FuncId} {caps : List Value} (S : Nat → Heap → World → Prop) (p : Nat → Bool)
  (hS : ∀ k h w, S k h w → Sub h w ∧ Sl LDecision h v xs)
  (hf : ∀ k x h w vs, S k h w → xs[k]? = some x → LDecision.R h vs x → ∀ u, u = .agg vs.toArray → Calls Tryz.prog g (u :: caps).toArray w (fun e w' => ∃ h', e = .returned (.bool (p k)) ∧ S (k + 1) h' w'))
  (hg : ∀ a w, (callFunc g a).run Tryz.prog w = .ok (.enter g a) w) {h : Heap} {w : World} (h0 : S 0 h w) :
  Calls Tryz.prog 158 #[v, .func (.func g) #[] caps.toArray] w (fun e w' => ∃ h' k, e = .returned (.bool (decide (k < xs.length))) ∧ k ≤ xs.length ∧ (∀ j, j < k → p j = false) ∧ (k < xs.length → p k = true) ∧ S (if k < xs.length then k + 1 else k) h' w') := by
 refine zN (n := 9) Tryz.func158 X X X<|zd<|zH X X<|Y<|zd<|zO (v := v) X X<|zhB X X ?_;refine zaJ rfl rfl (zbb rfl Tryz.call199 rfl) ((zej S p hS hf hg h0).mono ?_);rintro e w2 ⟨h2, k, rfl, q1, q2, q3, q4⟩;refine ⟨_, rfl, ?_⟩;refine zih X X X<|zH X X<|Y<|zt<|zb Tryz.results158 ?_;refine ⟨h2, k, congrArg Ending.returned (zw ?_), q1, q2, q3, q4⟩
 by_cases hlt : k < xs.length
 ·simp [hlt]
 ·simp [hlt]
theorem zeO {xs : List Voter} {v : Value} {g : FuncId} {caps : List Value} (S : Nat → Heap → World → Prop) (p : Nat → Bool)
  (hS : ∀ k h w, S k h w → Sub h w ∧ Sl LVoter h v xs)
  (hf : ∀ k x h w vs, S k h w → xs[k]? = some x → LVoter.R h vs x → ∀ u, u = .agg vs.toArray → Calls Tryz.prog g (u :: caps).toArray w (fun e w' => ∃ h', e = .returned (.bool (p k)) ∧ S (k + 1) h' w'))
  (hg : ∀ a w, (callFunc g a).run Tryz.prog w = .ok (.enter g a) w) {h : Heap} {w : World} (h0 : S 0 h w) :
  Calls Tryz.prog 242 #[v, .func (.func g) #[] caps.toArray] w (fun e w' => ∃ h' k, e = .returned (.int .i64 (if k < xs.length then (k : Int) else -1)) ∧ k ≤ xs.length ∧ (∀ j, j < k → p j = false) ∧ (k < xs.length → p k = true) ∧ S (if k < xs.length then k + 1 else k) h' w') := by
 refine zN (n := 19) Tryz.func242 X X X<|have hb:=(hS 0 h w h0).2.le;zd<|zr X X<|Y<|zk<|zd<|zO (v := v) X X<|zaH (hS 0 h w h0).2 X zan X<|zh X X<|Y<|zB ?_;refine zaq ([4, 5] ++ zbQ 8 11) (G := Nat × Heap) (fun ⟨k, _⟩ => [(8, .int .i64 (k : Int))]) (fun ⟨k, h'⟩ w' => S k h' w' ∧ k ≤ xs.length ∧ ∀ j, j < k → p j = false) (fun ⟨k, _⟩ => xs.length - k) ⟨0, h⟩ ⟨rfl, trivial⟩ ⟨h0, by omega, by intros; omega⟩ ?_;rintro ⟨k, h1⟩ _ w1 ⟨hS1, hk, hp⟩;obtain ⟨hsub, hsl⟩ := hS k h1 w1 hS1;refine zd<|zaR X X X<|Y<|zk ?_;refine zae rfl (fun c1 => ?_) (fun c1 => ?_)
 ·replace c1 := zhC c1;refine zx<|E<|zk<|zB<|zd<|zh X X<|zr X X<|Y<|zd<|zhB X X<|zO (v := v) X X<|zh X X ?_;have hy : ∃ y, xs[k]? = some y := ⟨_, List.getElem?_eq_getElem zq⟩;obtain ⟨y, hy⟩ := hy;obtain ⟨b, o, vs, he, hc, hr⟩ := Sl.elem hsl hy;refine zS he X X (hk := X) (hu := zan) (hz := zbe) X<|zA hsub hc X zff zbe (LVoter.len hr) X ?_;refine zaJ rfl rfl (zcb (fs := []) (cs := caps) rfl rfl hg rfl) ((hf k y h1 w1 _ hS1 hy hr _ rfl).mono ?_);rintro e w2 ⟨h2, rfl, hS2⟩;refine ⟨_, rfl, ?_⟩;refine Y ?_;refine zae rfl (fun c2 => ?_) (fun c2 => ?_)
  ·refine zk ?_;refine zl<|zh X X<|zr X X<|Y<|zt ?_
   repeat (first | refine zG ?_ | refine zc ?_)
   refine zb Tryz.results242 ?_;have hlt : k < xs.length := by omega
   exact ⟨h2, k, by rw [if_pos hlt]; rfl, hk, hp, fun _ => c2, by rw [if_pos hlt]; exact hS2⟩
  ·refine zx ?_;refine zK<|E<|zl ?_;refine zi rfl rfl (ziZ rfl rfl zq) ?_;refine zh X X<|Y ?_;refine ⟨⟨k + 1, h2⟩, ⟨rfl, trivial⟩, ?_, ⟨hS2, by omega, ?_⟩, ?_⟩
   ·exact zap
   ·intro j hj
    rcases Nat.lt_or_ge j k with h3 | h3
    ·exact hp j h3
    ·obtain rfl : j = k := by omega
     exact c2
   ·show xs.length - (k + 1) < xs.length - k;omega
 ·replace c1 := t_of c1;refine zaC<|zm<|zm<|zag<|E<|zd<|zr X X<|Y<|zt<|zb Tryz.results242 ?_;have hlt : ¬ k < xs.length := by omega
  exact ⟨h1, k, by rw [if_neg hlt]; rfl, hk, hp, fun q => absurd q hlt, by rw [if_neg hlt]; exact hS1⟩

theorem zew {xs : List Voter} {v : Value} {g : FuncId} {caps : List Value} (S : Nat → Heap → World → Prop) (p : Nat → Bool)
  (hS : ∀ k h w, S k h w → Sub h w ∧ Sl LVoter h v xs)
  (hf : ∀ k x h w vs, S k h w → xs[k]? = some x → LVoter.R h vs x → ∀ u, u = .agg vs.toArray → Calls Tryz.prog g (u :: caps).toArray w (fun e w' => ∃ h', e = .returned (.bool (p k)) ∧ S (k + 1) h' w'))
  (hg : ∀ a w, (callFunc g a).run Tryz.prog w = .ok (.enter g a) w) {h : Heap} {w : World} (h0 : S 0 h w) :
  Calls Tryz.prog 240 #[v, .func (.func g) #[] caps.toArray] w (fun e w' => ∃ h' k, e = .returned (.bool (decide (k < xs.length))) ∧ k ≤ xs.length ∧ (∀ j, j < k → p j = false) ∧ (k < xs.length → p k = true) ∧ S (if k < xs.length then k + 1 else k) h' w') := by
 refine zN (n := 9) Tryz.func240 X X X<|zd<|zH X X<|Y<|zd<|zO (v := v) X X<|zhB X X ?_;refine zaJ rfl rfl (zbb rfl Tryz.call242 rfl) ((zeO S p hS hf hg h0).mono ?_);rintro e w2 ⟨h2, k, rfl, q1, q2, q3, q4⟩;refine ⟨_, rfl, ?_⟩;refine zih X X X<|zH X X<|Y<|zt<|zb Tryz.results240 ?_;refine ⟨h2, k, congrArg Ending.returned (zw ?_), q1, q2, q3, q4⟩
 by_cases hlt : k < xs.length
 ·simp [hlt]
 ·simp [hlt]
theorem zeP {xs : List Voter} {v : Value} {g : FuncId} {caps : List Value} {h : Heap} {w : World} (hs : Sub h w) (hx : Sl LVoter h v xs) (q : Voter → Bool)
  (hg : ∀ a w, (callFunc g a).run Tryz.prog w = .ok (.enter g a) w)
  (hf : ∀ x h' w' vs, Le h h' → Sub h' w' → x ∈ xs → LVoter.R h' vs x → ∀ u, u = .agg vs.toArray → Calls Tryz.prog g (u :: caps).toArray w' (Rets h' w' fun _ _ r => r = .bool (q x))) :
  Calls Tryz.prog 240 #[v, .func (.func g) #[] caps.toArray] w (Rets h w fun _ _ r => r = .bool (xs.any q)) := by
 refine (zew (fun k h' w' => St h w h' w' [] ∧ k ≤ xs.length) (fun k => ((xs[k]?).map q).getD false) (fun k h' w' hk => ⟨hk.1.sub, hx.up hk.1.le⟩) ?_ hg ⟨St.start hs, Nat.zero_le _⟩).mono ?_
 ·rintro k x h' w' vs ⟨st, _⟩ hk hr u hu;refine (hf x h' w' vs st.le st.sub (List.mem_of_getElem? hk) hr u hu).mono ?_;rintro e w'' ⟨h'', r, rfl, s, rfl⟩;obtain ⟨hlt, _⟩ := List.getElem?_eq_some_iff.1 hk;exact ⟨h'', by simp [hk], st.call0 s, hlt⟩
 ·rintro e w' ⟨h', k, rfl, q1, q2, q3, q4⟩;refine ⟨h', _, rfl, q4.1, zw ?_⟩
  by_cases hlt : k < xs.length
  ·have h3 := q3 hlt;rw [List.getElem?_eq_getElem hlt] at h3;simp only [Option.map_some, Option.getD_some] at h3;have : xs.any q = true := List.any_eq_true.2 ⟨_, List.getElem_mem hlt, h3⟩;simp [hlt, this]
  ·have : xs.any q = false := by
    rw [List.any_eq_false];intro x hx';obtain ⟨j, hj⟩ := List.mem_iff_getElem?.1 hx';obtain ⟨h5, _⟩ := List.getElem?_eq_some_iff.1 hj;have := q2 j zq;simpa [hj] using this
   simp [hlt, this]
end Go.Pk

namespace Go.Pk
open Go Go.RowKit Go.Proofs
theorem c_leaf_in_1 {h : Heap} {w : World} (hs : Sub h w) (n : Int) {lo_b : Nat} {lo : Int} (lo_c : Cells h lo_b 0 [.int .i64 lo]) {hi_b : Nat} {hi : Int} (hi_c : Cells h hi_b 0 [.int .i64 hi]) : Calls Tryz.prog 179 #[.int .i64 n, .pointer (some ⟨lo_b, 0, none⟩), .pointer (some ⟨hi_b, 0, none⟩)] w (Rets h w (fun _ _ res_ => res_ = .bool ((decide (n < lo) || decide (hi < n))))) := by
 refine zN (n := 13) Tryz.func179 X X X<|have st0:=zbk hs;zd<|zH X X<|Y<|zd<|zh X X<|M (j := 0) st0.sub lo_c X X X zz X<|zaR X X X<|zZ X X ?_;refine zah (d := 8) rfl (fun g1 => ?_) (fun g1 => ?_)
 ·refine zQ 3 X<|zW (v := (.bool _)) X X X<|zH X X<|Y<|zt<|zb Tryz.results179 ?_;refine ⟨h, _, rfl, st0.done, ?_⟩;refine zw ?_
  first | (simp_all; done) | (simp_all; omega)
 refine Z X X X<|zh X X<|Z X X X<|M (j := 0) st0.sub hi_c X X X zz X<|Z X X X<|zdE X X X<|zU (v := (.bool _)) X X X<|zH X X<|Y<|zt<|zb Tryz.results179 ?_;refine ⟨h, _, rfl, st0.done, ?_⟩;refine zw ?_
 first | (simp_all; done) | (simp_all; omega)
theorem zfK {h : Heap} {w : World} (hs : Sub h w) (lo : Int) (hi : Int) {all__v : Value} {all_ : (List Int)} (all__f : Sl LInt h all__v all_) : Calls Tryz.prog 125 #[.int .i64 lo, .int .i64 hi, all__v] w (Rets h w (fun _ _ res_ => res_ = .bool (zcQ all_ lo hi))) := by
 refine zN (n := 11) Tryz.func125 X X X<|have st0:=zbk hs;have all__f_b:=all__f.le;zd<|zJ st0 (cs := [.int .i64 lo]) X X X<|fun b1 w2 h3 le4 hc5 st6=>zJ st6 (cs := [.int .i64 hi]) X X X<|fun b7 w8 h9 le10 hc11 st12=>zH X X<|Y<|zd<|zO (v := all__v) X X<|zcS X X X ?_;have l13 := le4.t le10;refine zj st12 rfl rfl rfl Tryz.call97 rfl (zdC st12.sub (all__f.up l13) (fun x_ => (decide ((x_) < (lo)) || decide ((hi) < (x_)))) Tryz.call179 (fun x_ h_ w_ vs_ le_ hs_ hx_ hr_ u_ hu_ => by cases hu_; cases hr_; exact c_leaf_in_1 hs_ _ (lo := lo) ((hc5.up le10).up le_) (hi := hi) (hc11.up le_))) ?_;intro r14 w15 h16 le17 st18 q19;subst q19;refine zbE X X<|zH X X<|Y<|zt<|zb Tryz.results125 ?_;refine ⟨h16, _, rfl, st18.done, ?_⟩;refine zw ?_;exact inAll_eq all_ lo hi
theorem c_stem_in_1 {h : Heap} {w : World} (hs : Sub h w) (n : Int) {lo_b : Nat} {lo : Int} (lo_c : Cells h lo_b 0 [.int .i64 lo]) {hi_b : Nat} {hi : Int} (hi_c : Cells h hi_b 0 [.int .i64 hi]) : Calls Tryz.prog 157 #[.int .i64 n, .pointer (some ⟨lo_b, 0, none⟩), .pointer (some ⟨hi_b, 0, none⟩)] w (Rets h w (fun _ _ res_ => res_ = .bool ((decide (n < lo) || decide (hi < n))))) := by
 refine zN (n := 13) Tryz.func157 X X X<|have st0:=zbk hs;zd<|zH X X<|Y<|zd<|zh X X<|M (j := 0) st0.sub lo_c X X X zz X<|zaR X X X<|zZ X X ?_;refine zah (d := 8) rfl (fun g1 => ?_) (fun g1 => ?_)
 ·refine zQ 3 X<|zW (v := (.bool _)) X X X<|zH X X<|Y<|zt<|zb Tryz.results157 ?_;refine ⟨h, _, rfl, st0.done, ?_⟩;refine zw ?_
  first | (simp_all; done) | (simp_all; omega)
 refine Z X X X<|zh X X<|Z X X X<|M (j := 0) st0.sub hi_c X X X zz X<|Z X X X<|zdE X X X<|zU (v := (.bool _)) X X X<|zH X X<|Y<|zt<|zb Tryz.results157 ?_;refine ⟨h, _, rfl, st0.done, ?_⟩;refine zw ?_
 first | (simp_all; done) | (simp_all; omega)
theorem zjg {h : Heap} {w : World} (hs : Sub h w) (lo : Int) (hi : Int) {all__v : Value} {all_ : (List Int)} (all__f : Sl LInt h all__v all_) : Calls Tryz.prog 110 #[.int .i64 lo, .int .i64 hi, all__v] w (Rets h w (fun _ _ res_ => res_ = .bool (zcQ all_ lo hi))) := by
 refine zN (n := 11) Tryz.func110 X X X<|have st0:=zbk hs;have all__f_b:=all__f.le;zd<|zJ st0 (cs := [.int .i64 lo]) X X X<|fun b1 w2 h3 le4 hc5 st6=>zJ st6 (cs := [.int .i64 hi]) X X X<|fun b7 w8 h9 le10 hc11 st12=>zH X X<|Y<|zd<|zO (v := all__v) X X<|zcS X X X ?_;have l13 := le4.t le10;refine zj st12 rfl rfl rfl Tryz.call97 rfl (zdC st12.sub (all__f.up l13) (fun x_ => (decide ((x_) < (lo)) || decide ((hi) < (x_)))) Tryz.call157 (fun x_ h_ w_ vs_ le_ hs_ hx_ hr_ u_ hu_ => by cases hu_; cases hr_; exact c_stem_in_1 hs_ _ (lo := lo) ((hc5.up le10).up le_) (hi := hi) (hc11.up le_))) ?_;intro r14 w15 h16 le17 st18 q19;subst q19;refine zbE X X<|zH X X<|Y<|zt<|zb Tryz.results110 ?_;refine ⟨h16, _, rfl, st18.done, ?_⟩;refine zw ?_;exact inAll_eq all_ lo hi
theorem c_leaf_word_1 {h : Heap} {w : World} (hs : Sub h w) (b : Int) (b_l : 0 ≤ b ∧ b ≤ 255) : Calls Tryz.prog 196 #[.int .u8 b] w (Rets h w (fun _ _ res_ => res_ = .bool ((decide (b < 97) || decide (122 < b))))) := by
 refine zN (n := 9) Tryz.func196 X X X<|have st0:=zbk hs;zd<|zH X X<|Y<|zd<|zh X X<|zaR X X X<|zZ X X ?_;refine zah (d := 5) rfl (fun g1 => ?_) (fun g1 => ?_)
 ·refine zQ 2 X<|zW (v := (.bool _)) X X X<|zH X X<|Y<|zt<|zb Tryz.results196 ?_;refine ⟨h, _, rfl, st0.done, ?_⟩;refine zw ?_
  first | (simp_all; done) | (simp_all; omega)
 refine Z X X X<|zh X X<|Z X X X<|zdE X X X<|zU (v := (.bool _)) X X X<|zH X X<|Y<|zt<|zb Tryz.results196 ?_;refine ⟨h, _, rfl, st0.done, ?_⟩;refine zw ?_
 first | (simp_all; done) | (simp_all; omega)
theorem c_leaf_word {h : Heap} {w : World} (hs : Sub h w) (s : Str) (s_le : s.length ≤ 281474976710656) : Calls Tryz.prog 152 #[zP s] w (Rets h w (fun _ _ res_ => res_ = .bool (zdM s))) := by
 refine zN (n := 13) Tryz.func152 X X X<|have st0:=zbk hs;zd<|zH X X<|Y<|zd<|zcq X X<|zcA X zaz X<|zab (L := LInt) (xs := [(s.length : Int)]) (cs := [.int .i64 (s.length : Int)]) st0 (Enc.cons (L := LInt) (vs := [.int .i64 (s.length : Int)]) (x := (s.length : Int)) (h := h) (X) Enc.nil) X X X zf Tryz.info3 X X X O<|fun v1 w2 h5 le6 f3 st4=>zj st4 X X X zfP X (zfK st4.sub _ _ f3)<|fun r7 w8 h9 le10 st11 q12=> ?_;subst q12;refine zZ X X ?_;refine zaE (d := 7) rfl (fun g13 => ?_) (fun g13 => ?_)
 ·refine Z X X X<|zcq X X<|Z X X X ?_;refine OpsL.strBytes st11 (s := s) rfl (by first | assumption | omega | (simp; omega)) rfl zaz Tryz.underlying193 Tryz.underlying5 zbx ?_;intro v14 w15 h16 le17 f18 st19;refine Z X X X ?_;refine zj st19 rfl rfl rfl Tryz.call114 rfl (zen st19.sub f18 (fun x_ => (decide ((x_) < 97) || decide (122 < (x_)))) Tryz.call196 (fun x_ h_ w_ vs_ le_ hs_ hx_ hr_ u_ hu_ => by cases hu_; obtain ⟨hr1_, hr2_⟩ := hr_; cases hr1_; exact c_leaf_word_1 hs_ _ hr2_)) ?_;intro r20 w21 h22 le23 st24 q25;subst q25;refine Z X X X<|zbE X X<|zW (v := (.bool _)) X X X<|zH X X<|Y<|zt<|zb Tryz.results152 ?_;refine ⟨h22, _, rfl, st24.done, ?_⟩;refine zw ?_;simp_all [wordB_eq]
 refine zQ 4 X<|zU (v := (.bool _)) X X X<|zH X X<|Y<|zt<|zb Tryz.results152 ?_;refine ⟨h9, _, rfl, st11.done, ?_⟩;refine zw ?_;simp_all [wordB_eq]
theorem c_leaf_Check_1 {h : Heap} {w : World} (hs : Sub h w) (s : Str) (s_le : s.length ≤ 281474976710656) : Calls Tryz.prog 151 #[zP s] w (Rets h w (fun _ _ res_ => res_ = .bool ((!zdM s)))) := by
 refine zN (n := 6) Tryz.func151 X X X<|have st0:=zbk hs;zd<|zH X X<|Y<|zd<|zcq X X<|zj st0 X X X Tryz.call152 X (c_leaf_word st0.sub _ zbv)<|fun r1 w2 h3 le4 st5 q6=> ?_;subst q6;refine zbE X X<|zH X X<|Y<|zt<|zb Tryz.results151 ?_;refine ⟨h3, _, rfl, st5.done, ?_⟩;refine zw ?_;rfl
theorem c_leaf_Check {h : Heap} {w : World} (hs : Sub h w) {t : Text} {t_v0 : Value} (t_f0 : Sl LChapter h t_v0 t.chapters) : Calls Tryz.prog 106 #[.agg #[t_v0]] w (Rets h w (fun _ _ res_ => res_ = .int .i64 ((if zbn t then 0 else 10)))) := by
 refine zN (n := 64) Tryz.func106 X X X<|have st0:=zbk hs;have t_f0_b:=t_f0.le;zd<|zJ st0 (cs := [t_v0]) X X X<|fun b1 w2 h3 le4 hc5 st6=>zr X X<|Y<|W.scope<|zk<|zd<|U X zaQ X zbz X X<|M (j := 0) st6.sub hc5 X X X zbZ X<|zaH (t_f0.up le4) X zaK X<|zab (L := LInt) (xs := [(t.chapters.length : Int)]) (cs := [.int .i64 (t.chapters.length : Int)]) st6 (Enc.cons (L := LInt) (vs := [.int .i64 (t.chapters.length : Int)]) (x := (t.chapters.length : Int)) (h := h3) (X) Enc.nil) X X X zf Tryz.info3 X X X O<|fun v7 w8 h11 le12 f9 st10=>zj st10 X X X zfP X (zfK st10.sub _ _ f9)<|fun r13 w14 h15 le16 st17 q18=> ?_;subst q18;refine zbE X X<|Y ?_;refine zae rfl (fun c19 => ?_) (fun c19 => ?_)
 ·refine zd<|zr X X<|Y<|zt<|zc<|zeF<|zb zeU ?_;refine ⟨h15, _, rfl, st17.done, ?_⟩;refine zaf ?_;simp_all [zbn]
 refine zx<|E<|zd<|zr X X<|Y<|zd<|zfR (κ := Int) (υ := Bool) (ek := (fun n : Int => .int .i64 n)) (eu := (fun b : Bool => .bool b)) st17 X<|fun v20 o21 w22 f23 st24=> ?_;obtain ⟨mb25, rfl⟩ := f23.form;have nd26 : (([] : List (Int × Bool)).map (·.1)).Nodup := by simp
 refine zad (v := (.map (some mb25))) X X<|Y<|zk<|W.label<|E<|zk<|zd<|U X zaQ X zbz X X<|M (j := 0) st24.sub (hc5.up (le12.t le16)) X X X zbZ X<|have l27:=(le4.t le12).t le16;zaH (t_f0.up l27) X zaK X<|zh X X<|Y<|zB ?_;refine zaq ([2, 3, 6, 8] ++ zbQ 19 44) (G := Nat × List (Int × Bool) × List (Nat × Obj) × Heap) (fun ⟨i, m, o_4, h28⟩ => [(3, .int .i64 0), (19, .int .i64 (i : Int))]) (fun ⟨i, m, o_4, h28⟩ w' => Le h15 h28 ∧ St h w h28 w' [o_4] ∧ (OM (fun n : Int => .int .i64 n) (fun b : Bool => .bool b) (m) o_4 (.map (some mb25))) ∧ (((m).map (·.1)).Nodup) ∧ (i ≤ t.chapters.length) ∧ ((t.chapters.take i).all zbR = true) ∧ (((t.chapters.take i).map (·.id)).Nodup) ∧ (∀ k, (zbU m k).getD false = decide (k ∈ (t.chapters.take i).map (·.id)))) (fun ⟨i, m, o_4, h28⟩ => t.chapters.length - i) ⟨0, [], o21, h15⟩ ⟨rfl, rfl, trivial⟩ ⟨Le.refl _, st24, (by have q := f23; exact q), (by have q := nd26; exact q), zaS, zaS, zaS, (by intro k; simp [zbU])⟩ ?_;rintro ⟨i, m, o_4, h28⟩ _ w31 ⟨le29, st30, hM_4, hN_4, hi, hA, hN, hm⟩;refine zd<|zaR X X X<|Y<|zk ?_;refine zC rfl (fun c32 => ?_) (fun c32 => ?_)
 ·refine zx<|E<|zk<|zB<|zd ?_;obtain ⟨c, hc⟩ : ∃ y_, (t.chapters)[i]? = some y_ := zbw zq;have l37 := l27.t le29;obtain ⟨b33, o34, _, he36, hc35, hr_c⟩ := Sl.elem (t_f0.up l37) hc;obtain ⟨v38, rfl, f39⟩ := hr_c;have f39_b := f39.le;refine zS he36 X X (hk := X) (hu := zaK) (hz := zbD) X<|zA st30.sub hc35 X Tryz.isAgg107 zbD X X<|zT st30 Tryz.zeroValue107 X X<|fun b40 w41 st42=>zM st42 (k := 1) X X X (za X (za f39.one zat)) zbD X X X<|fun w43 st44=> ?_;obtain ⟨h45, le46, hb47, st49⟩ := st44.freeze (k := 1) rfl;have hc48 := Cells.of hb47;refine Y<|zk<|zd<|U X zaG X zn X X<|M (j := 0) st49.sub hc48 X X X zz X<|zab (L := LInt) (xs := [(c.id)]) (cs := [.int .i64 (c.id)]) st49 (Enc.cons (L := LInt) (vs := [.int .i64 (c.id)]) (x := (c.id)) (h := h45) (X) Enc.nil) X X X zf Tryz.info3 X X X O<|fun v50 w51 h54 le55 f52 st53=>zj st53 X X X zfP X (zfK st53.sub _ _ f52)<|fun r56 w57 h58 le59 st60 q61=> ?_;subst q61;refine zbE X X<|zZ X X ?_;refine zaE (d := 28) rfl (fun g62 => ?_) (fun g62 => ?_)
  ·refine zQ 4 X<|zW (v := (.bool _)) X X X<|zZ X X<|zQ 6 X<|zW (v := (.bool _)) X X X<|Y ?_;refine zae rfl (fun c63 => ?_) (fun c63 => ?_)
   ·refine zd<|zr X X<|Y<|zt<|zc<|zG<|zc<|zc<|zG<|zc<|zeF<|zb zeU ?_;refine ⟨h58, _, rfl, st60.done, ?_⟩;refine zaf ?_;have q0 : zbR c = false := by
     have q := g62;simp at q;simp [zbR, q]
    have q := zcN (p := zbR) hc q0;simp [zbn, q]
   cases c63
  refine Z X X X<|zO (v := (.map (some mb25))) X X<|Z X X X<|U X zaG X zn X X<|Z X X X<|M (j := 0) st60.sub (hc48.up (le55.t le59)) X X X zz X<|Z X X X<|zi X X (r_look (k := (c.id)) (zu := false) (zjq zcg) Tryz.underlying187 hM_4 (st60.ent (k := 0) X) zfL X X X)<|zU (v := (.bool _)) X X X<|zZ X X ?_;refine zaE (d := 34) rfl (fun g64 => ?_) (fun g64 => ?_)
  ·refine zQ 6 X<|zW (v := (.bool _)) X X X<|Y ?_;refine zae rfl (fun c65 => ?_) (fun c65 => ?_)
   ·refine zd<|zr X X<|Y<|zt<|zc<|zG<|zc<|zc<|zG<|zc<|zeF<|zb zeU ?_;refine ⟨h58, _, rfl, st60.done, ?_⟩;refine zaf ?_;have q0 := g64;rw [hm] at q0;have q := ziO (f := (·.id)) hc (by simpa using q0);simp [zbn, q]
   cases c65
  refine Z X X X<|U X zaG X zbO X X<|Z X X X<|M (j := 1) st60.sub (hc48.up (le55.t le59)) X X X zck X<|Z X X X<|zaH (f39.up ((le46.t le55).t le59)) X zaO X<|Z X X X<|zab (L := LInt) (xs := [(c.lines.length : Int)]) (cs := [.int .i64 (c.lines.length : Int)]) st60 (Enc.cons (L := LInt) (vs := [.int .i64 (c.lines.length : Int)]) (x := (c.lines.length : Int)) (h := h58) (X) Enc.nil) X X X zf Tryz.info3 X X X O<|fun v66 w67 h70 le71 f68 st69=>Z X X X<|zj st69 X X X zfP X (zfK st69.sub _ _ f68)<|fun r72 w73 h74 le75 st76 q77=> ?_;subst q77;refine Z X X X<|zbE X X<|zU (v := (.bool _)) X X X<|Y ?_;refine zae rfl (fun c78 => ?_) (fun c78 => ?_)
  ·refine zd<|zr X X<|Y<|zt<|zc<|zG<|zc<|zc<|zG<|zc<|zeF<|zb zeU ?_;refine ⟨h74, _, rfl, st76.done, ?_⟩;refine zaf ?_;have q0 : zbR c = false := by
    have q := c78;simp at q;simp [zbR, q]
   have q := zcN (p := zbR) hc q0;simp [zbn, q]
  refine zx<|E<|zd<|zO (v := (.map (some mb25))) X X<|U X zaG X zn X X<|have l79:=((le55.t le59).t le71).t le75;M (j := 0) st76.sub (hc48.up l79) X X X zz X<|zeE (i := 0) st76 hM_4 X hN_4 (zjq zcg) Tryz.underlying187 X (k := (c.id)) X (u := true) X<|fun o80 w81 _ e82 f83 nd84 st85=> ?_;subst e82;refine Y<|zd<|U X zaG X zbO X X<|M (j := 1) st85.sub (hc48.up l79) X X X zck X<|have l86:=(((le46.t le55).t le59).t le71).t le75;zaH (f39.up l86) X zaO X<|zh X X<|Y<|zB ?_;refine zaq ([3, 8] ++ zbQ 48 14) (G := Nat × List (Nat × Obj) × Heap) (fun ⟨k2, o_4, h87⟩ => [(3, .int .i64 0), (48, .int .i64 (k2 : Int))]) (fun ⟨k2, o_4, h87⟩ w' => Le h74 h87 ∧ St h w h87 w' [o_4, []] ∧ (OM (fun n : Int => .int .i64 n) (fun b : Bool => .bool b) (zha m c.id true) o_4 (.map (some mb25))) ∧ (((zha m c.id true).map (·.1)).Nodup) ∧ (k2 ≤ c.lines.length) ∧ ((c.lines.take k2).all zgQ = true)) (fun ⟨k2, o_4, h87⟩ => c.lines.length - k2) ⟨0, o80, h74⟩ ⟨rfl, rfl, trivial⟩ ⟨Le.refl _, st85, (by have q := f83; exact q), (by have q := nd84; exact q), zaS, zaS⟩ ?_;rintro ⟨k2, o_4, h87⟩ _ w90 ⟨le88, st89, hM_4, hN_4, hk2, hl⟩;refine zd<|zaR X X X<|Y<|zk ?_;refine zC rfl (fun c91 => ?_) (fun c91 => ?_)
  ·refine zx<|E<|zk<|zB<|zd ?_;obtain ⟨ln, hln⟩ : ∃ y_, (c.lines)[k2]? = some y_ := zbw zq;obtain ⟨b92, o93, _, he95, hc94, hr_ln⟩ := Sl.elem (f39.up (l86.t le88)) hln;obtain ⟨v96, rfl, f97⟩ := hr_ln;have f97_b := f97.le;refine zS he95 X X (hk := X) (hu := zaO) (hz := zdV) X<|M (j := 0) st89.sub hc94 X X X zem X<|zad (v := v96) X X<|Y<|zd<|zO (v := v96) X X<|zaH f97 X zV X<|zab (L := LInt) (xs := [(ln.length : Int)]) (cs := [.int .i64 (ln.length : Int)]) st89 (Enc.cons (L := LInt) (vs := [.int .i64 (ln.length : Int)]) (x := (ln.length : Int)) (h := h87) (X) Enc.nil) X X X zf Tryz.info3 X X X O<|fun v98 w99 h102 le103 f100 st101=>zj st101 X X X zfP X (zfK st101.sub _ _ f100)<|fun r104 w105 h106 le107 st108 q109=> ?_;subst q109;refine zbE X X<|zZ X X ?_;refine zaE (d := 57) rfl (fun g110 => ?_) (fun g110 => ?_)
   ·refine zQ 2 X<|zW (v := (.bool _)) X X X<|Y ?_;refine zae rfl (fun c111 => ?_) (fun c111 => ?_)
    ·refine zd<|zr X X<|Y<|zaC<|zhM X<|zm<|zm<|zhM X<|zhM X<|zm<|zm<|zag<|E<|zd<|zh X X<|zr X X<|Y<|zt<|zeF<|zb zeU ?_;refine ⟨h106, _, rfl, st108.done, ?_⟩;refine zaf ?_;have q1 : zgQ ln = false := by
      have q := g110;simp at q;simp [zgQ, q]
     have q2 := zcN (p := zgQ) hln q1;have q0 : zbR c = false := by simp [zbR, q2]
     have q := zcN (p := zbR) hc q0;simp [zbn, q]
    cases c111
   refine Z X X X<|zO (v := v96) X X<|Z X X X ?_;refine zj st108 rfl rfl rfl Tryz.call150 rfl (zfX st108.sub (f97.up (le103.t le107)) (fun x_ => (!zdM (x_))) Tryz.call151 (fun x_ h_ w_ vs_ le_ hs_ hx_ hr_ u_ hu_ => by cases hu_; obtain ⟨hr1_, hr2_⟩ := hr_; cases hr1_; simp only [big] at hr2_; exact c_leaf_Check_1 hs_ _ hr2_)) ?_;intro r112 w113 h114 le115 st116 q117;subst q117;refine zU (v := (.bool _)) X X X<|Y ?_;refine zae rfl (fun c118 => ?_) (fun c118 => ?_)
   ·refine zd<|zr X X<|Y<|zaC<|zhM X<|zm<|zm<|zhM X<|zhM X<|zm<|zm<|zag<|E<|zd<|zh X X<|zr X X<|Y<|zt<|zeF<|zb zeU ?_;refine ⟨h114, _, rfl, st116.done, ?_⟩;refine zaf ?_;have q1 : zgQ ln = false := by
     have q := c118;rw [any_not] at q;simp only [zgQ, Bool.and_eq_false_iff];right; simpa using q
    have q2 := zcN (p := zgQ) hln q1;have q0 : zbR c = false := by simp [zbR, q2]
    have q := zcN (p := zbR) hc q0;simp [zbn, q]
   refine zx<|zK<|E<|zl<|zaI X X zaP X<|zh X X<|Y ?_;have l119 := ((le88.t le103).t le107).t le115;refine ⟨⟨k2 + 1, o_4, h114⟩, ⟨rfl, rfl, trivial⟩, ?_, ⟨l119, st116, ?_, ?_, ?_, ?_⟩, ?_⟩
   ·exact zap
   ·have q := hM_4;exact q
   ·have q := hN_4;exact q
   ·first | omega | (simp; omega)
   ·exact zcx hl hln (by simp_all [zgQ])
   show c.lines.length - ((k2 + 1)) < c.lines.length - k2;omega
  refine zaC<|zm<|zm<|zag<|zK<|E<|zl<|zaI X X zaP X<|zh X X<|Y ?_;have HCH : zbR c = true := by
   have q := zdh hl zq;simp_all [zbR]
  have HD : (zbU m c.id).getD false = false := by simp_all
  have l120 := (((((le29.t le46).t le55).t le59).t le71).t le75).t le88;refine ⟨⟨i + 1, zha m c.id true, o_4, h87⟩, ⟨rfl, rfl, trivial⟩, ?_, ⟨l120, st89.take 1, ?_, ?_, ?_, ?_, ?_, ?_⟩, ?_⟩
  ·exact zap
  ·have q := hM_4;exact q
  ·have q := hN_4;exact q
  ·first | omega | (simp; omega)
  ·exact zcx hA hc HCH
  ·rw [zaY hc, List.map_append, List.nodup_append];refine ⟨hN, by simp, ?_⟩;intro a ha b hb e;simp only [List.map_cons, List.map_nil, List.mem_singleton] at hb;subst hb;subst e;rw [hm] at HD;exact absurd ha (by simpa using HD)
  ·intro k;rw [zjb, zaY hc, List.map_append]
   by_cases e : k = c.id
   ·simp [e]
   ·simp only [if_neg e, hm];simp [e]
  show t.chapters.length - ((i + 1)) < t.chapters.length - i;omega
 refine zaC<|zm<|zm<|zag<|E<|zd<|zh X X<|zr X X<|Y<|zt<|zeF<|zb zeU ?_;refine ⟨h28, _, rfl, st30.done, ?_⟩;refine zaf ?_;have q := zdh hA zq;have q2 : t.chapters.take i = t.chapters := List.take_of_length_le zq;rw [q2] at hN;simp_all [zbn]
end Go.Pk

namespace Go.Pk
open Go Go.RowKit Go.Proofs
theorem zjh {h : Heap} {w : World} (hs : Sub h w) {a_v : Value} {a : (List Str)} (a_f : Sl LStr h a_v a) {b_v : Value} {b : (List Str)} (b_f : Sl LStr h b_v b) : Calls Tryz.prog 46 #[a_v, b_v] w (Rets h w (fun _ _ res_ => res_ = .bool (decide (a = b)))) := by
 refine zN (n := 26) Tryz.func46 X X X<|have st0:=zbk hs;have a_f_b:=a_f.le;have b_f_b:=b_f.le;zd<|zH X X<|Y<|zk<|zd<|zO (v := a_v) X X<|zaH a_f X zV X<|zO (v := b_v) X X<|zaH b_f X zV X<|zcR X X X<|Y ?_;refine zC rfl (fun c1 => ?_) (fun c1 => ?_)
 ·refine zd<|zH X X<|Y<|zt<|zc<|zb Tryz.results46 ?_;refine ⟨h, _, rfl, st0.done, ?_⟩;refine zw ?_;have q : a ≠ b := by
   rintro rfl;simp_all
  simp [q]
 refine zx<|E<|zk<|zd<|zr X X<|Y<|zB ?_;refine zaq ([4, 5] ++ zbQ 11 15) (G := Nat × Heap) (fun ⟨k, h2⟩ => [(5, .int .i64 (k : Int))]) (fun ⟨k, h2⟩ w' => Le h h2 ∧ St h w h2 w' [] ∧ (k ≤ a.length) ∧ (a.take k = b.take k)) (fun ⟨k, h2⟩ => a.length - k) ⟨0, h⟩ ⟨rfl, trivial⟩ ⟨Le.refl _, st0, zaS, zaS⟩ ?_;rintro ⟨k, h2⟩ _ w5 ⟨le3, st4, hk, he⟩;refine zk<|zd<|zh X X<|zO (v := a_v) X X<|zaH (a_f.up le3) X zV X<|zaR X X X<|Y ?_;refine zC rfl (fun c6 => ?_) (fun c6 => ?_)
 ·refine zx<|E<|zk<|zB<|zk<|zbL Tryz.mixed O (Cls h2 _) (Cls.drew st4)<|zeq (v := a_v) X X<|zdf X X ?_;obtain ⟨x, hx⟩ : ∃ y_, (a)[k]? = some y_ := zbw zq;obtain ⟨b7, o8, _, he10, hc9, hr_x⟩ := Sl.elem (a_f.up le3) hx;obtain ⟨rfl, ls11⟩ := hr_x;simp only [big] at ls11;refine zbH he10 X X (hk := X) (hu := zV) (hz := zak) X<|zD X X (fun _ hC => (zg (j := 0) hC.sub hc9 X X X zaD))<|zeq (v := b_v) X X<|zdf X X ?_;obtain ⟨y, hy⟩ : ∃ y_, (b)[k]? = some y_ := zbw zq;obtain ⟨b12, o13, _, he15, hc14, hr_y⟩ := Sl.elem (b_f.up le3) hy;obtain ⟨rfl, ls16⟩ := hr_y;simp only [big] at ls16;refine zbH he15 X X (hk := X) (hu := zV) (hz := zak) X<|zD X X (fun _ hC => (zg (j := 0) hC.sub hc14 X X X zaD))<|zD X X (fun _ _ => (r_sneq X X))<|zbt ?_;rintro w17 ⟨h18, s19⟩;have st20 := st4.call0 s19;refine E ?_;refine zC rfl (fun c21 => ?_) (fun c21 => ?_)
  ·refine zd<|zH X X<|Y<|zt<|zG<|zc<|zc<|zG<|zc<|zb Tryz.results46 ?_;refine ⟨h18, _, rfl, st20.done, ?_⟩;refine zw ?_;have q := ne_of_get hx hy (by simpa using c21);simp [q]
  refine zx<|zK<|E<|zl<|zh X X<|zaI X X zaP X<|zr X X<|Y ?_;have l22 := le3.trans s19.le;refine ⟨⟨k + 1, h18⟩, ⟨rfl, trivial⟩, ?_, ⟨l22, st20, ?_, ?_⟩, ?_⟩
  ·exact zap
  ·first | omega | (simp; omega)
  ·exact eq_take_succ he hx hy (by simpa using c21)
  show a.length - ((k + 1)) < a.length - k;omega
 refine zaC<|zm<|zm<|zag<|E<|zd<|zH X X<|Y<|zt<|zb Tryz.results46 ?_;refine ⟨h2, _, rfl, st4.done, ?_⟩;refine zw ?_;have q := eq_of_take he zq zq;simp [q]
theorem zde {h : Heap} {w : World} (hs : Sub h w) {a_v : Value} {a : (List Int)} (a_f : Sl LInt h a_v a) {b_v : Value} {b : (List Int)} (b_f : Sl LInt h b_v b) : Calls Tryz.prog 20 #[a_v, b_v] w (Rets h w (fun _ _ res_ => res_ = .bool (decide (a = b)))) := by
 refine zN (n := 26) Tryz.func20 X X X<|have st0:=zbk hs;have a_f_b:=a_f.le;have b_f_b:=b_f.le;zd<|zH X X<|Y<|zk<|zd<|zO (v := a_v) X X<|zaH a_f X zf X<|zO (v := b_v) X X<|zaH b_f X zf X<|zcR X X X<|Y ?_;refine zC rfl (fun c1 => ?_) (fun c1 => ?_)
 ·refine zd<|zH X X<|Y<|zt<|zc<|zb Tryz.results20 ?_;refine ⟨h, _, rfl, st0.done, ?_⟩;refine zw ?_;have q : a ≠ b := by
   rintro rfl;simp_all
  simp [q]
 refine zx<|E<|zk<|zd<|zr X X<|Y<|zB ?_;refine zaq ([4, 5] ++ zbQ 11 15) (G := Nat × Heap) (fun ⟨k, h2⟩ => [(5, .int .i64 (k : Int))]) (fun ⟨k, h2⟩ w' => Le h h2 ∧ St h w h2 w' [] ∧ (k ≤ a.length) ∧ (a.take k = b.take k)) (fun ⟨k, h2⟩ => a.length - k) ⟨0, h⟩ ⟨rfl, trivial⟩ ⟨Le.refl _, st0, zaS, zaS⟩ ?_;rintro ⟨k, h2⟩ _ w5 ⟨le3, st4, hk, he⟩;refine zk<|zd<|zh X X<|zO (v := a_v) X X<|zaH (a_f.up le3) X zf X<|zaR X X X<|Y ?_;refine zC rfl (fun c6 => ?_) (fun c6 => ?_)
 ·refine zx<|E<|zk<|zB<|zk<|zbL Tryz.mixed O (Cls h2 _) (Cls.drew st4)<|zeq (v := a_v) X X<|zdf X X ?_;obtain ⟨x, hx⟩ : ∃ y_, (a)[k]? = some y_ := zbw zq;obtain ⟨b7, o8, _, he10, hc9, hr_x⟩ := Sl.elem (a_f.up le3) hx;subst hr_x;refine zbH he10 X X (hk := X) (hu := zf) (hz := zn) X<|zD X X (fun _ hC => (zg (j := 0) hC.sub hc9 X X X zz))<|zeq (v := b_v) X X<|zdf X X ?_;obtain ⟨y, hy⟩ : ∃ y_, (b)[k]? = some y_ := zbw zq;obtain ⟨b11, o12, _, he14, hc13, hr_y⟩ := Sl.elem (b_f.up le3) hy;subst hr_y;refine zbH he14 X X (hk := X) (hu := zf) (hz := zn) X<|zD X X (fun _ hC => (zg (j := 0) hC.sub hc13 X X X zz))<|u_neq X X X<|zbt ?_;rintro w15 ⟨h16, s17⟩;have st18 := st4.call0 s17;refine E ?_;refine zC rfl (fun c19 => ?_) (fun c19 => ?_)
  ·refine zd<|zH X X<|Y<|zt<|zG<|zc<|zc<|zG<|zc<|zb Tryz.results20 ?_;refine ⟨h16, _, rfl, st18.done, ?_⟩;refine zw ?_;have q := ne_of_get hx hy (by simpa using c19);simp [q]
  refine zx<|zK<|E<|zl<|zh X X<|zaI X X zaP X<|zr X X<|Y ?_;have l20 := le3.trans s17.le;refine ⟨⟨k + 1, h16⟩, ⟨rfl, trivial⟩, ?_, ⟨l20, st18, ?_, ?_⟩, ?_⟩
  ·exact zap
  ·first | omega | (simp; omega)
  ·exact eq_take_succ he hx hy (by simpa using c19)
  show a.length - ((k + 1)) < a.length - k;omega
 refine zaC<|zm<|zm<|zag<|E<|zd<|zH X X<|Y<|zt<|zb Tryz.results20 ?_;refine ⟨h2, _, rfl, st4.done, ?_⟩;refine zw ?_;have q := eq_of_take he zq zq;simp [q]
end Go.Pk

namespace Go.Pk
open Go Go.RowKit Go.Proofs
theorem c_leaf_open {h : Heap} {w : World} (hs : Sub h w) {t : Text} {t_v0 : Value} (t_f0 : Sl LChapter h t_v0 t.chapters) : Calls Tryz.prog 91 #[.agg #[t_v0]] w (Rets h w (fun h' _ res_ => ∃ u0, res_ = .tuple #[u0, .int .i64 ((if zbn t then 0 else 10))] ∧ Box LText h' (zbn t) t u0)) := by
 refine zN (n := 13) Tryz.func91 X X X<|have st0:=zbk hs;have t_f0_b:=t_f0.le;zd<|zJ st0 (cs := [t_v0]) X X X<|fun b1 w2 h3 le4 hc5 st6=>zad X X<|zr X X<|Y<|zk<|zd<|zA st6.sub hc5 X zbl zaw X X<|zj st6 X X X Tryz.call106 X (c_leaf_Check st6.sub (t := t) (t_f0.up le4))<|fun r7 w8 h9 le10 st11 q12=> ?_;subst q12;refine zr X X<|Y<|zd<|zh X X<|zcR X X X<|Y ?_;refine zC rfl (fun c13 => ?_) (fun c13 => ?_)
 ·refine zd<|zh X X<|zad X X<|zr X X<|Y<|zt<|zc<|zbd Tryz.results91 ?_;refine ⟨h9, _, rfl, st11.done, ?_⟩;refine ⟨_, zdu rfl (zaf ?_), Box.nil ?_⟩
  ·simp_all
  simp_all
 refine zx<|E<|zd<|zA st11.sub (hc5.up le10) X zbl zaw X X ?_;refine zi rfl rfl (zbu (cs := [t_v0]) (by obtain ⟨_, _, rfl⟩ := Sl.form t_f0; kernel_rfl)) ?_;refine zJ st11 (cs := [t_v0]) X X X<|fun b14 w15 h16 le17 hc18 st19=>v_asP X X<|zr X X<|Y<|zt<|zbd Tryz.results91 ?_;refine ⟨h16, _, rfl, st19.done, ?_⟩;refine ⟨_, zdu rfl (zaf ?_), Box.some ?_ hc18 ⟨_, rfl, (t_f0.up ((le4.t le10).t le17))⟩⟩
 ·simp_all
 simp_all
theorem zji {h : Heap} {w : World} (hs : Sub h w) {t_b : Nat} {t : Text} {t_v0 : Value} (t_f0 : Sl LChapter h t_v0 t.chapters) (t_c : Cells h t_b 0 [t_v0]) {p : Place} : Calls Tryz.prog 86 #[.pointer (some ⟨t_b, 0, none⟩), .agg #[.int .i64 p.chapter, .int .i64 p.line, .int .i64 p.word]] w (Rets h w (fun h' _ res_ => ∃ u0, res_ = u0 ∧ Sl LStr h' u0 ((zdd t p).getD []))) := by
 refine zN (n := 50) Tryz.func86 X X X<|have st0:=zbk hs;have t_f0_b:=t_f0.le;zd<|zJ st0 (cs := [.int .i64 (p.chapter), .int .i64 (p.line), .int .i64 (p.word)]) X X X<|fun b1 w2 h3 le4 hc5 st6=>zcD X X<|Y<|zk<|zk ?_
 rcases Bool.eq_false_or_eq_true ((!(zcQ (([(p.chapter)])) (0) (((t.chapters.length : Int) - 1))))) with g7 | g7
 ·have g7_r := g7;refine zbm (er := ([], [], [], [], 0)) (dsts := [5, 6, 7, 8, 9, 10, 11, 12, 13, 14, 15, 16, 17, 18, 19, 20, 21, 22, 23, 24, 25, 26, 27, 28, 29, 30, 31, 32, 33, 34, 35]) st6 Tryz.mixed<|ze 0 [] X O O X X (fun hD wD τD hL hS hO  => (r_mvP X))<|ze 1 [0] X O O X X (fun hD wD τD hL hS hO _ _ => (zdJ X))<|ze 2 [0] X O O X X (fun hD wD τD hL hS hO _ _ => (zI X Tryz.underlying207 X zaw X))<|ze 3 [0] X O O X X (fun hD wD τD hL hS hO _ _ => (zI X zaQ X zbz X))<|ze 4 [0] X O O X X (fun hD wD τD hL hS hO _ _ => (zg (j := 0) (hL.sub hS) (t_c.up le4) X X X zbZ))<|ze 5 [0] X O O X X (fun hD wD τD hL hS hO _ _ => (r_len (t_f0.up le4) X zaK))<|ze 6 [0] X O O X X (fun hD wD τD hL hS hO _ _ => (r_sub X X zaP))<|ze 7 [] X O O X X (fun hD wD τD hL hS hO  => (zI X zam X zn X))<|ze 8 [0] X O O X X (fun hD wD τD hL hS hO _ _ => (zg (j := 0) (hL.sub hS) hc5 X X X zz)) ?_;refine zar 9 (.res (fun h' res_ => Sl LInt h' res_ ([(p.chapter)])) (fun _ _ _ hl f => f.up hl)) [0] rfl O O ?_ ?_
  ·intro hD wD τD hL hS hO _ _;have st8 := St.start hS;refine zab (L := LInt) (xs := [(p.chapter)]) (cs := [.int .i64 (p.chapter)]) st8 (Enc.cons (L := LInt) (vs := [.int .i64 (p.chapter)]) (x := (p.chapter)) (h := hD) (X) Enc.nil) X X X zf Tryz.info3 X X X O<|fun v9 w10 h13 le14 f11 st12=> ?_;exact zp ⟨_, _, rfl, st12, _, rfl, f11⟩
  refine zar 10 (.det (.bool (zcQ (([(p.chapter)])) (0) (((t.chapters.length : Int) - 1))))) [3, 0] rfl O O ?_ ?_
  ·intro hD wD τD hL hS hO _ _ gv9_0 gf9_0;have st15 := St.start hS;refine zj st15 X X X zfP X (zfK st15.sub _ _ gf9_0)<|fun r16 w17 h18 le19 st20 q21=> ?_;subst q21;exact zp ⟨_, _, rfl, st20, (), rfl, trivial⟩
  refine ze 11 [0] X O O X X (fun hD wD τD hL hS hO _ _ => (Run.lit (r_not X) g7_r))<|ze 12 [0, 1] X O O X X (fun hD wD τD hL hS hO _ _ _ _ => (zfj X))<|zaN 13 [0] X O O X X X X (fun hD wD τD hL hS hO _ _ => X)<|zaN 14 [0, 1] X O O X X X X (fun hD wD τD hL hS hO _ _ _ _ => X)<|zaN 15 [0, 2] X O O X X X X (fun hD wD τD hL hS hO _ _ _ _ => X)<|zaN 16 [0, 3] X O O X X X X (fun hD wD τD hL hS hO _ _ _ _ => X)<|zaN 17 [0, 4] X O O X X X X (fun hD wD τD hL hS hO _ _ _ _ => X)<|zaN 18 [5] X O O X X X X (fun hD wD τD hL hS hO _ _ => X)<|zaN 19 [0, 6] X O O X X X X (fun hD wD τD hL hS hO _ _ _ _ => X)<|zaN 20 [2, 0, 7] X O O X X X X (fun hD wD τD hL hS hO _ _ _ _ _ _ => X)<|zaN 21 [0, 8] X O O X X X X (fun hD wD τD hL hS hO _ _ _ _ => X)<|zaN 22 [0, 9] X O O X X X X (fun hD wD τD hL hS hO _ _ _ _ => X)<|zaN 23 [0, 10] X O O X X X X (fun hD wD τD hL hS hO _ _ _ _ => X)<|zaN 24 [0, 11] X O O X X X X (fun hD wD τD hL hS hO _ _ _ _ => X)<|zaN 25 [12] X O O X X X X (fun hD wD τD hL hS hO _ _ => X)<|zaN 26 [0, 13] X O O X X X X (fun hD wD τD hL hS hO _ _ _ _ => X)<|zaN 27 [0, 14] X O O X X X X (fun hD wD τD hL hS hO _ _ _ _ => X)<|zaN 28 [3, 0, 15] X O O X X X X (fun hD wD τD hL hS hO _ _ _ _ _ _ => X)<|zaN 29 [0, 16] X O O X X X X (fun hD wD τD hL hS hO _ _ _ _ => X)<|ze 30 [17, 0] X O O X X (fun hD wD τD hL hS hO _ _ _ _ => (zhW (v := (.bool _)) X X))<|zcd X X X X X X ⟨O, X, O, X, O, X, X, O, zcK⟩<|fun hE22 w23 _ le24 st25 _ _ _ _ _ _ _ _ _ _ _ _ _ _ _ _ _ _ gv9_0x26 gf9_0x26 _ _ _ _ _ _ _ _ _ _ _ _ _ _ _ _ _ _ _ _ _ _ _ _ _ _ _ _ _ _ _ _ _ _ _ _ _ _ _ _ _ _=>AllDeps.fin X<|E ?_;refine zae rfl (fun c27 => ?_) (fun c27 => ?_)
  ·refine zd<|zcD X X<|Y<|zt<|zc<|zb Tryz.results86 ?_;refine ⟨hE22, _, rfl, st25.done, ?_⟩;refine ⟨_, rfl, Sl.to (Sl.nil _ _) ?_⟩;have q : zdd t p = none := line_none1 (by
    have q := g7;simp [zcQ, inB] at q;omega)
   simp [q]
  cases c27
 have g7_r := g7;have q1 : 0 ≤ p.chapter ∧ p.chapter < t.chapters.length := by
  have q := g7;simp [zcQ, inB] at q;omega
 obtain ⟨c, hc⟩ : ∃ y_, (t.chapters)[p.chapter.toNat]? = some y_ := zbw zq;obtain ⟨b28, o29, _, he31, hc30, hr_c⟩ := Sl.elem (t_f0.up le4) hc;obtain ⟨v32, rfl, f33⟩ := hr_c;have f33_b := f33.le;refine zbm (er := ([], [], [], [], 0)) (dsts := [5, 6, 7, 8, 9, 10, 11, 12, 13, 14, 15, 16, 17, 18, 19, 20, 21, 22, 23, 24, 25, 26, 27, 28, 29, 30, 31, 32, 33, 34, 35]) st6 Tryz.mixed<|ze 0 [] X O O X X (fun hD wD τD hL hS hO  => (r_mvP X))<|ze 1 [0] X O O X X (fun hD wD τD hL hS hO _ _ => (zdJ X))<|ze 2 [0] X O O X X (fun hD wD τD hL hS hO _ _ => (zI X Tryz.underlying207 X zaw X))<|ze 3 [0] X O O X X (fun hD wD τD hL hS hO _ _ => (zI X zaQ X zbz X))<|ze 4 [0] X O O X X (fun hD wD τD hL hS hO _ _ => (zg (j := 0) (hL.sub hS) (t_c.up le4) X X X zbZ))<|ze 5 [0] X O O X X (fun hD wD τD hL hS hO _ _ => (r_len (t_f0.up le4) X zaK))<|ze 6 [0] X O O X X (fun hD wD τD hL hS hO _ _ => (r_sub X X zaP))<|ze 7 [] X O O X X (fun hD wD τD hL hS hO  => (zI X zam X zn X))<|ze 8 [0] X O O X X (fun hD wD τD hL hS hO _ _ => (zg (j := 0) (hL.sub hS) hc5 X X X zz)) ?_;refine zar 9 (.res (fun h' res_ => Sl LInt h' res_ ([(p.chapter)])) (fun _ _ _ hl f => f.up hl)) [0] rfl O O ?_ ?_
 ·intro hD wD τD hL hS hO _ _;have st34 := St.start hS;refine zab (L := LInt) (xs := [(p.chapter)]) (cs := [.int .i64 (p.chapter)]) st34 (Enc.cons (L := LInt) (vs := [.int .i64 (p.chapter)]) (x := (p.chapter)) (h := hD) (X) Enc.nil) X X X zf Tryz.info3 X X X O<|fun v35 w36 h39 le40 f37 st38=> ?_;exact zp ⟨_, _, rfl, st38, _, rfl, f37⟩
 refine zar 10 (.det (.bool (zcQ (([(p.chapter)])) (0) (((t.chapters.length : Int) - 1))))) [3, 0] rfl O O ?_ ?_
 ·intro hD wD τD hL hS hO _ _ gv9_0 gf9_0;have st41 := St.start hS;refine zj st41 X X X zfP X (zfK st41.sub _ _ gf9_0)<|fun r42 w43 h44 le45 st46 q47=> ?_;subst q47;exact zp ⟨_, _, rfl, st46, (), rfl, trivial⟩
 refine ze 11 [0] X O O X X (fun hD wD τD hL hS hO _ _ => (Run.lit (r_not X) g7_r))<|ze 12 [0, 1] X O O X X (fun hD wD τD hL hS hO _ _ _ _ => (zfj X))<|zbc 13 [0] X O O X X X (fun hD wD τD hL hS hO _ _ => ⟨rfl, (r_mvP X)⟩)<|zbc 14 [0, 1] X O O X X X (fun hD wD τD hL hS hO _ _ _ _ => ⟨rfl, (zdJ X)⟩)<|zbc 15 [0, 2] X O O X X X (fun hD wD τD hL hS hO _ _ _ _ => ⟨rfl, (zI X Tryz.underlying207 X zaw X)⟩)<|zbc 16 [0, 3] X O O X X X (fun hD wD τD hL hS hO _ _ _ _ => ⟨rfl, (zI X zaQ X zbz X)⟩)<|zbc 17 [0, 4] X O O X X X (fun hD wD τD hL hS hO _ _ _ _ => ⟨rfl, (zg (j := 0) (hL.sub hS) (t_c.up le4) X X X zbZ)⟩)<|zbc 18 [5] X O O X X X (fun hD wD τD hL hS hO _ _ => ⟨rfl, (zI X zam X zn X)⟩)<|zbc 19 [0, 6] X O O X X X (fun hD wD τD hL hS hO _ _ _ _ => ⟨rfl, (zg (j := 0) (hL.sub hS) hc5 X X X zz)⟩) ?_;refine zbc 20 [2, 0, 7] rfl O O rfl rfl rfl (fun hD wD τD hL hS hO _ _ _ _ _ _ => ⟨rfl, (zas he31 rfl rfl (hk := (show _ = ((p.chapter.toNat : Nat) : Int) by omega)) (hu := zaK) (hz := zbD))⟩) ?_;refine zbc 21 [0, 8] X O O X X X (fun hD wD τD hL hS hO _ _ _ _ => ⟨rfl, (zI X zaG X zbO X)⟩)<|zbc 22 [0, 9] X O O X X X (fun hD wD τD hL hS hO _ _ _ _ => ⟨rfl, (zg (j := 1) (hL.sub hS) hc30 X X X zck)⟩)<|zbc 23 [0, 10] X O O X X X (fun hD wD τD hL hS hO _ _ _ _ => ⟨rfl, (r_len f33 X zaO)⟩)<|zbc 24 [0, 11] X O O X X X (fun hD wD τD hL hS hO _ _ _ _ => ⟨rfl, (r_sub X X zaP)⟩)<|zbc 25 [12] X O O X X X (fun hD wD τD hL hS hO _ _ => ⟨rfl, (zI X zam X zn X)⟩)<|zbc 26 [0, 13] X O O X X X (fun hD wD τD hL hS hO _ _ _ _ => ⟨rfl, (zg (j := 1) (hL.sub hS) hc5 X X X zz)⟩) ?_;refine zar 27 (.res (fun h' res_ => Sl LInt h' res_ ([(p.line)])) (fun _ _ _ hl f => f.up hl)) [0, 14] rfl O O ?_ ?_
 ·intro hD wD τD hL hS hO _ _ _ _;have st48 := St.start hS;refine Z X X X<|zab (L := LInt) (xs := [(p.line)]) (cs := [.int .i64 (p.line)]) st48 (Enc.cons (L := LInt) (vs := [.int .i64 (p.line)]) (x := (p.line)) (h := hD) (X) Enc.nil) X X X zf Tryz.info3 X X X O<|fun v49 w50 h53 le54 f51 st52=> ?_;exact zp ⟨_, _, rfl, st52, _, rfl, f51⟩
 refine zar 28 (.det (.bool (zcQ (([(p.line)])) (0) (((c.lines.length : Int) - 1))))) [3, 0, 15] rfl O O ?_ ?_
 ·intro hD wD τD hL hS hO _ _ gv27_0 gf27_0 _ _;have st55 := St.start hS;refine Z X X X<|zj st55 X X X zfP X (zfK st55.sub _ _ gf27_0)<|fun r56 w57 h58 le59 st60 q61=> ?_;subst q61;exact zp ⟨_, _, rfl, st60, (), rfl, trivial⟩
 refine zbc 29 [0, 16] X O O X X X (fun hD wD τD hL hS hO _ _ _ _ => ⟨rfl, (r_not X)⟩)<|ze 30 [17, 0] X O O X X (fun hD wD τD hL hS hO _ _ _ _ => (zgg (v := (.bool _)) X X))<|zcd X X X X X X ⟨O, X, O, X, O, X, X, O, zcK⟩<|fun hE62 w63 _ le64 st65 _ _ _ _ _ _ _ _ _ _ _ _ _ _ _ _ _ _ gv9_0x66 gf9_0x66 _ _ _ _ _ _ _ _ _ _ _ _ _ _ _ _ _ _ _ _ _ _ _ _ _ _ _ _ _ _ _ _ _ _ gv27_0x66 gf27_0x66 _ _ _ _ _ _=>AllDeps.fin X<|E ?_;refine zae rfl (fun c67 => ?_) (fun c67 => ?_)
 ·refine zd<|zcD X X<|Y<|zt<|zc<|zb Tryz.results86 ?_;refine ⟨hE62, _, rfl, st65.done, ?_⟩;refine ⟨_, rfl, Sl.to (Sl.nil _ _) ?_⟩;have q : zdd t p = none := line_none2 hc (by
   have q := c67;simp [zcQ, inB] at q;omega)
  simp [q]
 refine zx<|E<|zk ?_;have q1 : 0 ≤ p.chapter ∧ p.chapter < t.chapters.length ∧ 0 ≤ p.line ∧ p.line < c.lines.length := by
  have q := g7;have q0 := c67;simp [zcQ, inB] at q q0;omega
 refine zbL Tryz.mixed O (Cls hE62 _) (Cls.drew st65)<|u_mvP X X<|zD X X (fun _ _ => (zdJ X))<|zY X Tryz.underlying207 X zaw X X<|zY X zaQ X zbz X X<|have l68:=le4.t le64;zD X X (fun _ hC => (zg (j := 0) hC.sub (t_c.up l68) X X X zbZ))<|zY X zam X zn X X<|zD X X (fun _ hC => (zg (j := 0) hC.sub (hc5.up le64) X X X zz)) ?_;refine zD rfl rfl (fun _ _ => (zas he31 rfl rfl (hk := (show _ = ((p.chapter.toNat : Nat) : Int) by omega)) (hu := zaK) (hz := zbD))) ?_;refine zY X zaG X zbO X X<|zD X X (fun _ hC => (zg (j := 1) hC.sub (hc30.up le64) X X X zck))<|zY X zam X zn X X<|zD X X (fun _ hC => (zg (j := 1) hC.sub (hc5.up le64) X X X zz)) ?_;obtain ⟨ln, hln⟩ : ∃ y_, (c.lines)[p.line.toNat]? = some y_ := zbw zq;obtain ⟨b69, o70, _, he72, hc71, hr_ln⟩ := Sl.elem (f33.up le64) hln;obtain ⟨v73, rfl, f74⟩ := hr_ln;have f74_b := f74.le;refine zD rfl rfl (fun _ _ => (zas he72 rfl rfl (hk := (show _ = ((p.line.toNat : Nat) : Int) by omega)) (hu := zaO) (hz := zdV))) ?_;refine zD X X (fun _ hC => (zg (j := 0) hC.sub hc71 X X X zem))<|u_assign (v := v73) X X<|zbt ?_;rintro w75 ⟨h76, s77⟩;have st78 := st65.call0 s77;refine E<|zt<|zb Tryz.results86 ?_;refine ⟨h76, _, rfl, st78.done, ?_⟩;refine ⟨_, rfl, Sl.to (f74.up s77.le) ?_⟩;rw [line_some hc q1.1 hln q1.2.2.1]; rfl
theorem c_leaf_book_has {h : Heap} {w : World} (hs : Sub h w) {t_b : Nat} {t : Text} {t_v0 : Value} (t_f0 : Sl LChapter h t_v0 t.chapters) (t_c : Cells h t_b 0 [t_v0]) {p : Place} : Calls Tryz.prog 124 #[.pointer (some ⟨t_b, 0, none⟩), .agg #[.int .i64 p.chapter, .int .i64 p.line, .int .i64 p.word]] w (Rets h w (fun _ _ res_ => res_ = .bool (zbI t p))) := by
 refine zN (n := 14) Tryz.func124 X X X<|have st0:=zbk hs;have t_f0_b:=t_f0.le;zd<|zJ st0 (cs := [.int .i64 (p.chapter), .int .i64 (p.line), .int .i64 (p.word)]) X X X<|fun b1 w2 h3 le4 hc5 st6=>zH X X<|Y<|zk<|have qb:=line_le t_f0 p;zbm (er := ([], [], [], [], 0)) (dsts := [5, 6, 7, 8, 9, 10, 11, 12, 13, 4]) st6 Tryz.mixed<|ze 0 [] X O O X X (fun hD wD τD hL hS hO  => (r_mvP X))<|ze 1 [] X O O X X (fun hD wD τD hL hS hO  => (zaF (hL.sub hS) hc5 X zaT zX X)) ?_;refine zar 2 (.res (fun h' res_ => Sl LStr h' res_ ((zdd (t) (p)).getD [])) (fun _ _ _ hl f => f.up hl)) [1, 0] rfl O O ?_ ?_
 ·intro hD wD τD hL hS hO _ _ _ _;have st7 := St.start hS;refine zj st7 X X X Tryz.call86 X (zji st7.sub (t := t) (t_f0.up (le4.trans hL)) (t_c.up (le4.trans hL)) (p := p))<|fun r8 w9 h10 le11 st12 q13=> ?_;obtain ⟨v14, e16, f15⟩ := q13;rw [← e16] at f15;have f15_b := f15.le;exact zp ⟨_, _, rfl, st12, _, rfl, f15⟩
 refine zar 3 (.det (.int .i64 (((zdd (t) (p)).getD []).length : Int))) [0] rfl O O ?_ ?_
 ·intro hD wD τD hL hS hO gv2_0 gf2_0;have st17 := St.start hS;refine zaH gf2_0 X zV X ?_;exact zp ⟨_, _, rfl, st17, (), rfl, trivial⟩
 refine ze 4 [0] X O O X X (fun hD wD τD hL hS hO _ _ => (r_sub X X zaP))<|ze 5 [] X O O X X (fun hD wD τD hL hS hO  => (zI X zam X zn X))<|ze 6 [0] X O O X X (fun hD wD τD hL hS hO _ _ => (zg (j := 2) (hL.sub hS) hc5 X X X zz)) ?_;refine zar 7 (.res (fun h' res_ => Sl LInt h' res_ ([(p.word)])) (fun _ _ _ hl f => f.up hl)) [0] rfl O O ?_ ?_
 ·intro hD wD τD hL hS hO _ _;have st18 := St.start hS;refine zab (L := LInt) (xs := [(p.word)]) (cs := [.int .i64 (p.word)]) st18 (Enc.cons (L := LInt) (vs := [.int .i64 (p.word)]) (x := (p.word)) (h := hD) (X) Enc.nil) X X X zf Tryz.info3 X X X O<|fun v19 w20 h23 le24 f21 st22=> ?_;exact zp ⟨_, _, rfl, st22, _, rfl, f21⟩
 refine zar 8 (.det (.bool (zcQ (([(p.word)])) (0) (((((zdd (t) (p)).getD []).length : Int) - 1))))) [3, 0, 5] rfl O O ?_ ?_
 ·intro hD wD τD hL hS hO _ _ gv7_0 gf7_0 gv2_0 gf2_0;have st25 := St.start hS;refine zj st25 X X X zfP X (zfK st25.sub _ _ gf7_0)<|fun r26 w27 h28 le29 st30 q31=> ?_;subst q31;exact zp ⟨_, _, rfl, st30, (), rfl, trivial⟩
 refine ze 9 [8, 7, 6, 5, 4, 3, 2, 1, 0] X O O X X (fun hD wD τD hL hS hO _ _ _ _ gv2_0 gf2_0 _ _ _ _ _ _ _ _ gv7_0 gf7_0 _ _ => (r_asB X))<|zcd X X X X X X ⟨O, X, O, X, O, X, X, O, zcK⟩<|fun hE32 w33 _ le34 st35 _ _ _ _ gv2_0x36 gf2_0x36 _ _ _ _ _ _ _ _ gv7_0x36 gf7_0x36 _ _ _ _=>AllDeps.fin X<|E<|zt<|zb Tryz.results124 ?_;refine ⟨hE32, _, rfl, st35.done, ?_⟩;refine zw ?_;rw [place_eq];cases hq : zdd t p with
 | none => simp [zcQ, inB]; omega
 | some l => simp [zcQ]
theorem c_leaf_placed {h : Heap} {w : World} (hs : Sub h w) {t : Text} {t_v0 : Value} (t_f0 : Sl LChapter h t_v0 t.chapters) {p : Place} : Calls Tryz.prog 85 #[.agg #[t_v0], .agg #[.int .i64 p.chapter, .int .i64 p.line, .int .i64 p.word]] w (Rets h w (fun h' _ res_ => ∃ u0, res_ = .tuple #[u0, .int .i64 ((if zbn t && zbI t p then 0 else if zbn t then 12 else 10))] ∧ Box LText h' (zbn t && zbI t p) t u0)) := by
 refine zN (n := 21) Tryz.func85 X X X<|have st0:=zbk hs;have t_f0_b:=t_f0.le;zd<|zJ st0 (cs := [t_v0]) X X X<|fun b1 w2 h3 le4 hc5 st6=>zJ st6 (cs := [.int .i64 (p.chapter), .int .i64 (p.line), .int .i64 (p.word)]) X X X<|fun b7 w8 h9 le10 hc11 st12=>zad X X<|zr X X<|Y<|zd<|zA st12.sub (hc5.up le10) X zbl zaw X X<|have l13:=le4.t le10;zj st12 X X X Tryz.call91 X (c_leaf_open st12.sub (t := t) (t_f0.up l13))<|fun r14 w15 h16 le17 st18 q19=> ?_
 rcases Bool.eq_false_or_eq_true (zbn (t)) with hb20 | hb20
 ·simp only [hb20, if_true, if_false, Bool.false_eq_true, reduceIte] at q19;obtain ⟨v21, rfl, f22⟩ := q19;obtain ⟨b23, vs24, rfl, hc25, hr26⟩ := f22;obtain ⟨v27, rfl, f28⟩ := hr26;have f28_b := f28.le;refine zdc X X<|zR (v := (.pointer (some _))) X X X<|zR (v := (.int _ _)) X X X<|v_asP X X<|zr X X<|Y<|zk<|zd<|zh X X<|zcR X X X<|Y ?_;refine zae rfl (fun c29 => ?_) (fun c29 => ?_)
  ·exact absurd c29 (by decide)
  refine zx<|E<|zk<|zd<|v_mvP X X<|zA st18.sub (hc11.up le17) X zaT zX X X<|zj st18 X X X Tryz.call124 X (c_leaf_book_has st18.sub (t := (t)) f28 hc25 (p := p))<|fun r30 w31 h32 le33 st34 q35=> ?_;subst q35;refine zbE X X<|Y ?_;refine zae rfl (fun c36 => ?_) (fun c36 => ?_)
  ·refine zd<|zad X X<|zr X X<|Y<|zt<|zc<|zbd Tryz.results85 ?_;refine ⟨h32, _, rfl, st34.done, ?_⟩;refine ⟨_, zdu rfl (zaf ?_), Box.nil ?_⟩
   ·simp_all
   simp_all
  refine zx<|E<|zd<|v_mvP X X<|v_asP X X<|zr X X<|Y<|zt<|zbd Tryz.results85 ?_;refine ⟨h32, _, rfl, st34.done, ?_⟩;refine ⟨_, zdu rfl (zaf ?_), Box.some ?_ (hc25.up le33) ⟨_, rfl, (f28.up le33)⟩⟩
  ·simp_all
  simp_all
 simp only [hb20, if_true, if_false, Bool.false_eq_true, reduceIte] at q19;obtain ⟨v37, rfl, f38⟩ := q19;subst f38;refine zdc X X<|zR (v := (.pointer none)) X X X<|zR (v := (.int _ _)) X X X<|zad X X<|zr X X<|Y<|zk<|zd<|zh X X<|zcR X X X<|Y ?_;refine zae rfl (fun c39 => ?_) (fun c39 => ?_)
 ·refine zd<|zh X X<|zad X X<|zr X X<|Y<|zt<|zc<|zbd Tryz.results85 ?_;refine ⟨h16, _, rfl, st18.done, ?_⟩;refine ⟨_, zdu rfl (zaf ?_), Box.nil ?_⟩
  ·simp_all
  simp_all
 exact absurd c39 (by decide)
theorem zhr {h : Heap} {w : World} (hs : Sub h w) {t : Text} {t_v0 : Value} (t_f0 : Sl LChapter h t_v0 t.chapters) {p : Place} : Calls Tryz.prog 37 #[.agg #[t_v0], .agg #[.int .i64 p.chapter, .int .i64 p.line, .int .i64 p.word]] w (Rets h w (fun _ _ res_ => res_ = .tuple #[zP ((if zbn t then (zhh t p).getD [] else [])), .int .i64 ((if zbn t && zbI t p then 0 else if zbn t then 12 else 10))])) := by
 refine zN (n := 24) Tryz.func37 X X X<|have st0:=zbk hs;have t_f0_b:=t_f0.le;zd<|zJ st0 (cs := [t_v0]) X X X<|fun b1 w2 h3 le4 hc5 st6=>zJ st6 (cs := [.int .i64 (p.chapter), .int .i64 (p.line), .int .i64 (p.word)]) X X X<|fun b7 w8 h9 le10 hc11 st12=>zfS X X<|zr X X<|Y<|zd<|zA st12.sub (hc5.up le10) X zbl zaw X X<|zA st12.sub hc11 X zaT zX X X<|have l13:=le4.t le10;zj st12 X X X Tryz.call85 X (c_leaf_placed st12.sub (t := t) (t_f0.up l13) (p := p))<|fun r14 w15 h16 le17 st18 q19=> ?_
 rcases Bool.eq_false_or_eq_true (zbn (t) && zbI (t) (p)) with hb20 | hb20
 ·simp only [hb20, if_true, if_false, Bool.false_eq_true, reduceIte] at q19;obtain ⟨v21, rfl, f22⟩ := q19;obtain ⟨b23, vs24, rfl, hc25, hr26⟩ := f22;obtain ⟨v27, rfl, f28⟩ := hr26;have f28_b := f28.le;refine zdc X X<|zR (v := (.pointer (some _))) X X X<|zR (v := (.int _ _)) X X X<|v_asP X X<|zr X X<|Y<|zk<|zd<|zh X X<|zcR X X X<|Y ?_;refine zae rfl (fun c29 => ?_) (fun c29 => ?_)
  ·exact absurd c29 (by decide)
  refine zx<|E<|zk ?_;have q1 : zbI t p = true := by simp_all
  have q2 := place_eq t p;have q3 : 0 ≤ p.word ∧ p.word < (((zdd t p).getD []).length : Int) := by
   rw [q1] at q2;simp [inB] at q2;omega
  obtain ⟨wd, hwd⟩ : ∃ y_, (((zdd ((t)) (p)).getD []))[p.word.toNat]? = some y_ := zbw zq;refine zbm (er := ([], [], [], [], 0)) (dsts := [17, 18, 19, 20, 21, 22, 23, 4, 5]) st18 Tryz.mixed<|ze 0 [] X O O X X (fun hD wD τD hL hS hO  => (r_mvP X))<|ze 1 [] X O O X X (fun hD wD τD hL hS hO  => (zaF (hL.sub hS) (hc11.up le17) X zaT zX X)) ?_;refine zar 2 (.res (fun h' res_ => Sl LStr h' res_ ((zdd ((t)) (p)).getD [])) (fun _ _ _ hl f => f.up hl)) [1, 0] rfl O O ?_ ?_
  ·intro hD wD τD hL hS hO _ _ _ _;have st30 := St.start hS;refine zj st30 X X X Tryz.call86 X (zji st30.sub (t := (t)) (f28.up hL) (hc25.up hL) (p := p))<|fun r31 w32 h33 le34 st35 q36=> ?_;obtain ⟨v37, e39, f38⟩ := q36;rw [← e39] at f38;have f38_b := f38.le;exact zp ⟨_, _, rfl, st35, _, rfl, f38⟩
  refine ze 3 [] X O O X X (fun hD wD τD hL hS hO  => (zI X zam X zn X))<|ze 4 [0] X O O X X (fun hD wD τD hL hS hO _ _ => (zg (j := 2) (hL.sub hS) (hc11.up le17) X X X zz)) ?_;refine zar 5 (.res (fun h' res_ => ∃ b o, res_ = .pointer (some ⟨b, o, none⟩) ∧ Cells h' b o [zP wd]) (by rintro _ _ _ hl ⟨b, o, e, c⟩; exact ⟨b, o, e, c.up hl⟩)) [2, 0] rfl O O ?_ ?_
  ·intro hD wD τD hL hS hO gv2_0 gf2_0 _ _;have st40 := St.start hS;obtain ⟨b_, o_, _, he_, hc_, hr_⟩ := Sl.elem gf2_0 hwd;obtain ⟨rfl, ls41⟩ := hr_;simp only [big] at ls41;refine zi rfl rfl (zas he_ rfl rfl (hk := (show _ = ((p.word.toNat : Nat) : Int) by omega)) (hu := zV) (hz := zak)) ?_;exact zp ⟨_, _, rfl, st40, _, rfl, _, _, rfl, hc_⟩
  refine zar 6 (.det (zP wd)) [0] rfl O O ?_ ?_
  ·intro hD wD τD hL hS hO gv5_ gf5_;obtain ⟨gb5, go5, rfl, gc5⟩ := gf5_;have st42 := St.start hS;refine M (j := 0) hS gc5 X X X zaD X ?_;exact zp ⟨_, _, rfl, st42, (), rfl, trivial⟩
  refine ze 7 [6, 5, 4, 3, 2, 1, 0] X O O X X (fun hD wD τD hL hS hO _ _ _ _ gv2_0 gf2_0 _ _ _ _ gv5_ gf5_ _ _ => (r_asS X))<|ze 8 [7, 6, 5, 4, 3, 2, 1, 0] X O O X X (fun hD wD τD hL hS hO _ _ _ _ gv2_0 gf2_0 _ _ _ _ gv5_ gf5_ _ _ _ _ => (r_asI X))<|zcd X X X X X X ⟨O, X, O, X, O, X, X, O, zcK⟩<|fun hE43 w44 _ le45 st46 _ _ _ _ gv2_0x47 gf2_0x47 _ _ _ _ gv5_x47 gf5_x47 _ _ _ _ _ _=> ?_;obtain ⟨gb5x47, go5x47, rfl, gc5x47⟩ := gf5_x47;refine AllDeps.fin X<|E<|zt<|zbd Tryz.results37 ?_;refine ⟨hE43, _, rfl, st46.done, ?_⟩;refine zdu (str_eq ?_) (zaf ?_)
  all_goals have qq : zbn t = true ∧ zbI t p = true := by simp_all
  ·simp [qq.1, word_some qq.2 hwd]
  simp [qq.1, qq.2]
 simp only [hb20, if_true, if_false, Bool.false_eq_true, reduceIte] at q19;obtain ⟨v48, rfl, f49⟩ := q19;subst f49;refine zdc X X<|zR (v := (.pointer none)) X X X<|zR (v := (.int _ _)) X X X<|zad X X<|zr X X<|Y<|zk<|zd<|zh X X<|zcR X X X<|Y ?_;refine zC rfl (fun c50 => ?_) (fun c50 => ?_)
 ·refine zd<|zh X X<|zfS X X<|zr X X<|Y<|zt<|zc<|zbd Tryz.results37 ?_;refine ⟨h16, _, rfl, st18.done, ?_⟩;refine zdu (str_eq ?_) (zaf ?_)
  all_goals have qq : zbn t = true → zbI t p = false := by simp_all
  ·cases q0 : zbn t
   ·rfl
   ·simp [word_none (qq q0)]
  cases q0 : zbn t
  ·rfl
  simp [qq q0]
 exfalso;revert c50;split <;> simp
end Go.Pk

namespace Go.Pk
open Go Go.RowKit Go.Proofs
theorem c_strings_indexFunc {s : Str} (hlen : s.length ≤ 281474976710656) {g : FuncId} {caps : List Value} (p : Int → Bool) (hp : ∀ x : Int, 128 ≤ x → p x = true)
  (hf : ∀ (x : Int) h w, Sub h w → Calls Tryz.prog g (.int .i32 x :: caps).toArray w (Rets h w fun _ _ r => r = .bool (p x)))
  (hg : ∀ a w, (callFunc g a).run Tryz.prog w = .ok (.enter g a) w) {h : Heap} {w : World} (hs : Sub h w) :
  Calls Tryz.prog 211 #[zP s, .func (.func g) #[] caps.toArray, .bool true] w (Rets h w fun _ _ r => ∃ k : Int, r = .int .i64 k ∧ (0 ≤ k ↔ (s.any fun c => p (c.toNat : Int)) = true)) := by
 refine zN (n := 21) Tryz.func211 X X X<|have st0:=zbk hs;zd<|zr X X<|Y<|zk<|zd<|zcq X X<|OpsL.rangeS st0 X zaz X<|fun b w1 st1=>Y<|zB ?_;refine zaq ([7, 8] ++ zbQ 11 10 ++ [6]) (G := Nat × Heap) (fun ⟨k, _⟩ => []) (fun ⟨k, h'⟩ w' => Le h h' ∧ St h w h' w' [[(b, .stringIter ⟨s.toArray⟩ k)]] ∧ k ≤ s.length ∧ ∀ j c, j < k → s[j]? = some c → p (c.toNat : Int) = false) (fun ⟨k, _⟩ => s.length - k) ⟨0, h⟩ trivial ⟨Le.refl _, st1, by omega, by intros; omega⟩ ?_;rintro ⟨k, h2⟩ _ w2 ⟨le2, st2, hk, hall⟩
 rcases Nat.lt_or_ge k s.length with hlt | hge
 ·obtain ⟨c, hc⟩ : ∃ c, s[k]? = some c := ⟨_, List.getElem?_eq_getElem hlt⟩;refine zd<|OpsL.nextS st2 (k := 0) X X hc X<|fun w3 st3=> ?_;generalize hR : Utf8.decode ⟨s.toArray⟩ k = R at st3;refine zR (v := .bool _) X X X<|Y<|zk ?_;refine zae rfl (fun c1 => ?_) (fun c1 => ?_)
  ·refine zx ?_;refine E<|zB<|zd<|zR (v := .int _ _) X X X<|zR (v := .int _ _) X X X<|zr X X<|zr X X<|Y<|zd<|zhB X X<|zh X X ?_;refine zaJ rfl rfl (zcb (fs := []) (cs := caps) rfl rfl hg rfl) ((hf (R.1 : Int) h2 w3 st3.sub).mono ?_);rintro e w4 ⟨h4, r4, rfl, s4, rfl⟩;refine ⟨_, rfl, ?_⟩;have st4 := st3.call0 s4;refine zZ X X<|zi X X (r_beql X X zby)<|Y ?_;refine zae rfl (fun c2 => ?_) (fun c2 => ?_)
   ·have c3 : p (R.1 : Int) = true := by simpa using c2
    refine zd<|zh X X<|zr X X<|Y<|zt ?_
    repeat (first | refine zG ?_ | refine zc ?_)
    refine zb Tryz.results211 ?_;refine ⟨h4, _, rfl, st4.done, (k : Int), rfl, ⟨fun _ => ?_, fun _ => by omega⟩⟩;rw [List.any_eq_true];refine ⟨c, List.mem_of_getElem? hc, ?_⟩
    by_cases hl : c.toNat < 128
    ·rw [decode_low hc hl] at hR; subst hR; exact c3
    ·exact hp _ zq
   ·have c3 : p (R.1 : Int) = false := by simpa using c2
    have hl : c.toNat < 128 := by
     rcases Nat.lt_or_ge c.toNat 128 with h5 | h5
     ·exact h5
     ·have q := decode_high hc zq;rw [hR] at q;rw [hp _ zq] at c3; cases c3
    rw [decode_low hc hl] at hR;subst hR;refine zx<|zK ?_;refine ⟨⟨k + 1, h4⟩, trivial, ?_, ⟨le2.trans s4.le, st4, by omega, ?_⟩, ?_⟩
    ·exact zap
    ·intro j d hj hd
     rcases Nat.lt_or_ge j k with h3 | h3
     ·exact hall j d h3 hd
     ·obtain rfl : j = k := by omega
      rw [hc] at hd; cases hd;exact c3
    ·show s.length - (k + 1) < s.length - k;omega
  ·cases c1
 ·refine zk ?_;refine zl<|OpsL.nextE st2 (k := 0) X X hge X<|zR (v := .bool _) X X X<|Y<|zk ?_;refine zae rfl (fun c1 => ?_) (fun c1 => ?_)
  ·cases c1
  ·refine zaC ?_;refine zm<|zm<|zag<|E<|zd<|zr X X<|Y<|zt<|zb Tryz.results211 ?_;refine ⟨h2, _, rfl, st2.done, _, rfl, ⟨fun q => absurd q (by decide), fun q => ?_⟩⟩;rw [List.any_eq_true] at q;obtain ⟨c, hc, hpc⟩ := q;obtain ⟨j, hj⟩ := List.mem_iff_getElem?.1 hc;have hjl := (List.getElem?_eq_some_iff.1 hj).1;rw [hall j c zq hj] at hpc; cases hpc
theorem c_strings_IndexFunc {s : Str} (hlen : s.length ≤ 281474976710656) {g : FuncId} {caps : List Value} (p : Int → Bool) (hp : ∀ x : Int, 128 ≤ x → p x = true)
  (hf : ∀ (x : Int) h w, Sub h w → Calls Tryz.prog g (.int .i32 x :: caps).toArray w (Rets h w fun _ _ r => r = .bool (p x)))
  (hg : ∀ a w, (callFunc g a).run Tryz.prog w = .ok (.enter g a) w) {h : Heap} {w : World} (hs : Sub h w) :
  Calls Tryz.prog 198 #[zP s, .func (.func g) #[] caps.toArray] w (Rets h w fun _ _ r => ∃ k : Int, r = .int .i64 k ∧ (0 ≤ k ↔ (s.any fun c => p (c.toNat : Int)) = true)) := by
 refine zN (n := 8) Tryz.func198 X X X<|have st0:=zbk hs;zd<|zr X X<|Y<|zd<|zcq X X<|zhB X X<|zj st0 X X X Tryz.call211 X (c_strings_indexFunc hlen p hp hf hg st0.sub) ?_;rintro v w1 h1 le1 st1 ⟨k, rfl, hk⟩;refine zr X X<|Y<|zt<|zb Tryz.results198 ?_;exact ⟨h1, _, rfl, st1.done, k, rfl, hk⟩
theorem zjv {s : Str} (hlen : s.length ≤ 281474976710656) {g : FuncId} {caps : List Value} (p : Int → Bool) (hp : ∀ x : Int, 128 ≤ x → p x = true)
  (hf : ∀ (x : Int) h w, Sub h w → Calls Tryz.prog g (.int .i32 x :: caps).toArray w (Rets h w fun _ _ r => r = .bool (p x)))
  (hg : ∀ a w, (callFunc g a).run Tryz.prog w = .ok (.enter g a) w) {h : Heap} {w : World} (hs : Sub h w) :
  Calls Tryz.prog 155 #[zP s, .func (.func g) #[] caps.toArray] w (Rets h w fun _ _ r => r = .bool (s.any fun c => p (c.toNat : Int))) := by
 refine zN (n := 9) Tryz.func155 X X X<|have st0:=zbk hs;zd<|zH X X<|Y<|zd<|zcq X X<|zhB X X<|zj st0 X X X Tryz.call198 X (c_strings_IndexFunc hlen p hp hf hg st0.sub) ?_;rintro v w1 h1 le1 st1 ⟨k, rfl, hk⟩;refine zih X X X<|zH X X<|Y<|zt<|zb Tryz.results155 ?_;refine ⟨h1, _, rfl, st1.done, zw ?_⟩;rw [Bool.eq_iff_iff, decide_eq_true_eq];exact hk
end Go.Pk

namespace Go.Pk
open Go Go.RowKit Go.Proofs
theorem c_stem_letters_1 {h : Heap} {w : World} (hs : Sub h w) (c : Int) : Calls Tryz.prog 156 #[.int .i32 c] w (Rets h w (fun _ _ res_ => res_ = .bool ((decide (c < 97) || decide (122 < c))))) := by
 refine zN (n := 9) Tryz.func156 X X X<|have st0:=zbk hs;zd<|zH X X<|Y<|zd<|zh X X<|zaR X X X<|zZ X X ?_;refine zah (d := 5) rfl (fun g1 => ?_) (fun g1 => ?_)
 ·refine zQ 2 X<|zW (v := (.bool _)) X X X<|zH X X<|Y<|zt<|zb Tryz.results156 ?_;refine ⟨h, _, rfl, st0.done, ?_⟩;refine zw ?_
  first | (simp_all; done) | (simp_all; omega)
 refine Z X X X<|zh X X<|Z X X X<|zdE X X X<|zU (v := (.bool _)) X X X<|zH X X<|Y<|zt<|zb Tryz.results156 ?_;refine ⟨h, _, rfl, st0.done, ?_⟩;refine zw ?_
 first | (simp_all; done) | (simp_all; omega)
theorem zfz {h : Heap} {w : World} (hs : Sub h w) (s : Str) (s_le : s.length ≤ 281474976710656) (lo : Int) : Calls Tryz.prog 109 #[zP s, .int .i64 lo] w (Rets h w (fun _ _ res_ => res_ = .bool (zcO s lo))) := by
 refine zN (n := 15) Tryz.func109 X X X<|have st0:=zbk hs;zd<|zH X X<|Y<|zd<|zh X X<|zcq X X<|zcA X zaz X<|zab (L := LInt) (xs := [(s.length : Int)]) (cs := [.int .i64 (s.length : Int)]) st0 (Enc.cons (L := LInt) (vs := [.int .i64 (s.length : Int)]) (x := (s.length : Int)) (h := h) (X) Enc.nil) X X X zf Tryz.info3 X X X O<|fun v1 w2 h5 le6 f3 st4=>zj st4 X X X Tryz.call110 X (zjg st4.sub _ _ f3)<|fun r7 w8 h9 le10 st11 q12=> ?_;subst q12;refine zZ X X ?_;refine zaE (d := 10) rfl (fun g13 => ?_) (fun g13 => ?_)
 ·refine Z X X X<|zcq X X<|Z X X X ?_;refine zj st11 rfl rfl rfl Tryz.call155 rfl (zjv (s := s) zbv (fun x_ : Int => (decide ((x_) < 97) || decide (122 < (x_)))) (by intro x_ hx_; simp; omega) (fun x_ h_ w_ hs_ => c_stem_letters_1 hs_ x_) Tryz.call156 st11.sub) ?_;intro r14 w15 h16 le17 st18 q19;subst q19;refine Z X X X<|zbE X X<|zW (v := (.bool _)) X X X<|zH X X<|Y<|zt<|zb Tryz.results109 ?_;refine ⟨h16, _, rfl, st18.done, ?_⟩;refine zw ?_;rw [letters_eq];simp_all [zcQ]
 refine zQ 3 X<|zU (v := (.bool _)) X X X<|zH X X<|Y<|zt<|zb Tryz.results109 ?_;refine ⟨h9, _, rfl, st11.done, ?_⟩;refine zw ?_;rw [letters_eq];simp_all [zcQ]
theorem zjw {h : Heap} {w : World} (hs : Sub h w) {hd : Head} (hd_l1 : hd.stem.length ≤ 281474976710656) (hd_l2 : 0 ≤ hd.mark ∧ hd.mark ≤ 255) : Calls Tryz.prog 131 #[.agg #[zP hd.stem, .int .u8 hd.mark]] w (Rets h w (fun _ _ res_ => res_ = .bool (zeh hd))) := by
 refine zN (n := 11) Tryz.func131 X X X<|have st0:=zbk hs;zd<|zJ st0 (cs := [zP (hd.stem), .int .u8 (hd.mark)]) X X X<|fun b1 w2 h3 le4 hc5 st6=>zH X X<|Y<|zd<|U X zbo X zak X X<|M (j := 0) st6.sub hc5 X X X zaD X<|zj st6 X X X Tryz.call109 X (zfz st6.sub _ zbv _)<|fun r7 w8 h9 le10 st11 q12=> ?_;subst q12;refine zZ X X ?_;refine zaE (d := 6) rfl (fun g13 => ?_) (fun g13 => ?_)
 ·refine Z X X X<|U X zbo X zbx X X<|Z X X X<|M (j := 1) st11.sub (hc5.up le10) X X X zbX X<|Z X X X<|zi X X (r_leq X X)<|zW (v := (.bool _)) X X X<|zH X X<|Y<|zt<|zb Tryz.results131 ?_;refine ⟨h9, _, rfl, st11.done, ?_⟩;refine zw ?_;rw [head_eq _ zq];simp_all
 refine zQ 3 X<|zU (v := (.bool _)) X X X<|zH X X<|Y<|zt<|zb Tryz.results131 ?_;refine ⟨h9, _, rfl, st11.done, ?_⟩;refine zw ?_;rw [head_eq _ zq];simp_all
end Go.Pk
