/- A PART OF THE PROOF: contracts of functions, each walked once (much of it printed by a program of the author's own). -/
import Derived.Test.YtjdbapoodefncaaGreatDoorT5
import Derived.Test.YtjdbapoodefncaaGreatDoorT2
set_option linter.unusedSimpArgs false
set_option linter.unusedVariables false
set_option maxRecDepth 4000
namespace Go.Pk
open Go Go.RowKit Go.Proofs
theorem zcF {h : Heap} {w : World} (hs : Sub h w) (n : Int) (lo : Int) (hi : Int) : Calls Tryz.prog 181 #[.int .i64 n, .int .i64 lo, .int .i64 hi] w (Rets h w (fun _ _ res_ => res_ = .bool (inB n lo hi))) := by
 refine zP (n := 15) Tryz.func181 Y Y Y<|have st0:=zbn hs;zf<|zJ Y Y<|Z<|zf<|zi Y Y<|zi Y Y<|ziL Y Y Y<|zaa Y Y ?_;refine zal (d := 10) rfl (fun g1 => ?_) (fun g1 => ?_)
 ·refine M Y Y Y<|zi Y Y<|M Y Y Y<|zi Y Y<|M Y Y Y<|zj Y Y (r_leq Y Y)<|zW (v := (.bool _)) Y Y Y<|zJ Y Y<|Z<|zx<|zc Tryz.results181 ?_;refine ⟨h, _, rfl, st0.done, ?_⟩;refine zy ?_;simp [inB, *]
 refine zS 3 Y<|zX (v := (.bool _)) Y Y Y<|zJ Y Y<|Z<|zx<|zc Tryz.results181 ?_;refine ⟨h, _, rfl, st0.done, ?_⟩;refine zy ?_;simp [inB, *]
theorem zdR {h : Heap} {w : World} (hs : Sub h w) (n : Int) (lo : Int) (hi : Int) : Calls Tryz.prog 127 #[.int .i64 n, .int .i64 lo, .int .i64 hi] w (Rets h w (fun _ _ res_ => res_ = .bool (inB n lo hi))) := by
 refine zP (n := 15) Tryz.func127 Y Y Y<|have st0:=zbn hs;zf<|zJ Y Y<|Z<|zf<|zi Y Y<|zi Y Y<|ziL Y Y Y<|zaa Y Y ?_;refine zal (d := 10) rfl (fun g1 => ?_) (fun g1 => ?_)
 ·refine M Y Y Y<|zi Y Y<|M Y Y Y<|zi Y Y<|M Y Y Y<|zj Y Y (r_leq Y Y)<|zW (v := (.bool _)) Y Y Y<|zJ Y Y<|Z<|zx<|zc Tryz.results127 ?_;refine ⟨h, _, rfl, st0.done, ?_⟩;refine zy ?_;simp [inB, *]
 refine zS 3 Y<|zX (v := (.bool _)) Y Y Y<|zJ Y Y<|Z<|zx<|zc Tryz.results127 ?_;refine ⟨h, _, rfl, st0.done, ?_⟩;refine zy ?_;simp [inB, *]
theorem zeW {h : Heap} {w : World} (hs : Sub h w) (s : Str) (s_le : s.length ≤ 281474976710656) : Calls Tryz.prog 129 #[zN s] w (Rets h w (fun _ _ res_ => res_ = .bool (zdx s))) := by
 refine zP (n := 23) Tryz.func129 Y Y Y<|have st0:=zbn hs;zf<|zJ Y Y<|Z<|zl<|zf<|zt Y Y<|Z<|zH ?_;refine zay (zbX 2 18) (G := Nat × Heap) (fun ⟨k, h1⟩ => [(3, .int .i64 (k : Int))]) (fun ⟨k, h1⟩ w' => Le h h1 ∧ St h w h1 w' [] ∧ (k ≤ s.length) ∧ ((s.take k).all isL = true)) (fun ⟨k, h1⟩ => s.length - k) ⟨0, h⟩ ⟨rfl, trivial⟩ ⟨Le.refl _, st0, zba, zba⟩ ?_;rintro ⟨k, h1⟩ _ w4 ⟨le2, st3, hk, ht⟩;refine zl<|zf<|zi Y Y<|zcw Y Y<|zcH Y zaA Y<|zaZ Y Y Y<|Z ?_;refine zG rfl (fun c5 => ?_) (fun c5 => ?_)
 ·refine zz<|O<|zl<|zH<|zf<|zcw Y Y<|zi Y Y ?_;obtain ⟨y6, hy6⟩ : ∃ y_, (s)[k]? = some y_ := zbE zr;refine zj Y Y (ziN Y Y (hk := Y) (hb := hy6) (hu := zaA))<|zaZ Y Y Y<|zaa Y Y ?_;refine zal (d := 14) rfl (fun g7 => ?_) (fun g7 => ?_)
  ·refine zS 4 Y<|zW (v := (.bool _)) Y Y Y<|Z ?_;refine zaj rfl (fun c8 => ?_) (fun c8 => ?_)
   ·refine zf<|zJ Y Y<|Z<|zx<|zK<|zd<|zd<|zK<|zd<|zc Tryz.results129 ?_;refine ⟨h1, _, rfl, st3.done, ?_⟩;refine zy ?_;have hn := zcT (p := isL) (by assumption) (by simp [isL]; omega);simp [zdx, zcE, hn]
   cases c8
  refine M Y Y Y<|zcw Y Y<|M Y Y Y<|zi Y Y<|M Y Y Y<|zj Y Y (ziN Y Y (hk := Y) (hb := hy6) (hu := zaA))<|M Y Y Y<|zdO Y Y Y<|zX (v := (.bool _)) Y Y Y<|Z ?_;refine zG rfl (fun c9 => ?_) (fun c9 => ?_)
  ·refine zf<|zJ Y Y<|Z<|zx<|zK<|zd<|zd<|zK<|zd<|zc Tryz.results129 ?_;refine ⟨h1, _, rfl, st3.done, ?_⟩;refine zy ?_;have hn := zcT (p := isL) (by assumption) (by simp [isL]; omega);simp [zdx, zcE, hn]
  refine zz<|zQ<|O<|zn<|zi Y Y<|zaQ Y Y zaY Y<|zt Y Y<|Z ?_;refine ⟨⟨k + 1, h1⟩, ⟨rfl, trivial⟩, ?_, ⟨le2, st3, ?_, ?_⟩, ?_⟩
  ·exact zax
  ·first | omega | (simp; omega)
  ·exact zcD ht (by assumption) (by simp [isL, *]; omega)
  show s.length - ((k + 1)) < s.length - k;omega
 refine zaJ<|zm<|zm<|zap<|O<|zf<|zcw Y Y<|zcH Y zaA Y<|zh st3 Y Y Y zgL Y (zcF st3.sub _ _ _)<|fun r10 w11 h12 le13 st14 q15=> ?_;subst q15;refine zJ Y Y<|Z<|zx<|zc Tryz.results129 ?_;refine ⟨h12, _, rfl, st14.done, ?_⟩;refine zy ?_;have hn := zdg ht zr;simp [zdx, zcE, hn]
theorem zhk {h : Heap} {w : World} (hs : Sub h w) (s : Str) (s_le : s.length ≤ 281474976710656) (lo : Int) : Calls Tryz.prog 126 #[zN s, .int .i64 lo] w (Rets h w (fun _ _ res_ => res_ = .bool (zcE s lo))) := by
 refine zP (n := 26) Tryz.func126 Y Y Y<|have st0:=zbn hs;zf<|zJ Y Y<|Z<|zl<|zf<|zt Y Y<|Z<|zH ?_;refine zay (zbX 4 18) (G := Nat × Heap) (fun ⟨k, h1⟩ => [(5, .int .i64 (k : Int))]) (fun ⟨k, h1⟩ w' => Le h h1 ∧ St h w h1 w' [] ∧ (k ≤ s.length) ∧ ((s.take k).all isL = true)) (fun ⟨k, h1⟩ => s.length - k) ⟨0, h⟩ ⟨rfl, trivial⟩ ⟨Le.refl _, st0, zba, zba⟩ ?_;rintro ⟨k, h1⟩ _ w4 ⟨le2, st3, hk, ht⟩;refine zl<|zf<|zi Y Y<|zcw Y Y<|zcH Y zaA Y<|zaZ Y Y Y<|Z ?_;refine zG rfl (fun c5 => ?_) (fun c5 => ?_)
 ·refine zz<|O<|zl<|zH<|zf<|zcw Y Y<|zi Y Y ?_;obtain ⟨y6, hy6⟩ : ∃ y_, (s)[k]? = some y_ := zbE zr;refine zj Y Y (ziN Y Y (hk := Y) (hb := hy6) (hu := zaA))<|zaZ Y Y Y<|zaa Y Y ?_;refine zal (d := 16) rfl (fun g7 => ?_) (fun g7 => ?_)
  ·refine zS 4 Y<|zW (v := (.bool _)) Y Y Y<|Z ?_;refine zaj rfl (fun c8 => ?_) (fun c8 => ?_)
   ·refine zf<|zJ Y Y<|Z<|zx<|zK<|zd<|zd<|zK<|zd<|zc Tryz.results126 ?_;refine ⟨h1, _, rfl, st3.done, ?_⟩;refine zy ?_;have hn := zcT (p := isL) (by assumption) (by simp [isL]; omega);simp [zdx, zcE, hn]
   cases c8
  refine M Y Y Y<|zcw Y Y<|M Y Y Y<|zi Y Y<|M Y Y Y<|zj Y Y (ziN Y Y (hk := Y) (hb := hy6) (hu := zaA))<|M Y Y Y<|zdO Y Y Y<|zX (v := (.bool _)) Y Y Y<|Z ?_;refine zG rfl (fun c9 => ?_) (fun c9 => ?_)
  ·refine zf<|zJ Y Y<|Z<|zx<|zK<|zd<|zd<|zK<|zd<|zc Tryz.results126 ?_;refine ⟨h1, _, rfl, st3.done, ?_⟩;refine zy ?_;have hn := zcT (p := isL) (by assumption) (by simp [isL]; omega);simp [zdx, zcE, hn]
  refine zz<|zQ<|O<|zn<|zi Y Y<|zaQ Y Y zaY Y<|zt Y Y<|Z ?_;refine ⟨⟨k + 1, h1⟩, ⟨rfl, trivial⟩, ?_, ⟨le2, st3, ?_, ?_⟩, ?_⟩
  ·exact zax
  ·first | omega | (simp; omega)
  ·exact zcD ht (by assumption) (by simp [isL, *]; omega)
  show s.length - ((k + 1)) < s.length - k;omega
 refine zaJ<|zm<|zm<|zap<|O<|zf<|zcw Y Y<|zcH Y zaA Y<|zi Y Y<|zh st3 Y Y Y Tryz.call127 Y (zdR st3.sub _ _ _)<|fun r10 w11 h12 le13 st14 q15=> ?_;subst q15;refine zJ Y Y<|Z<|zx<|zc Tryz.results126 ?_;refine ⟨h12, _, rfl, st14.done, ?_⟩;refine zy ?_;have hn := zdg ht zr;simp [zdx, zcE, hn]
theorem c_postilref04_Rule {h : Heap} {w : World} (hs : Sub h w) {r : Rule} (r_l1 : r.cut.length ≤ 281474976710656) (r_l2 : r.put.length ≤ 281474976710656) : Calls Tryz.prog 87 #[.agg #[zN r.cut, zN r.put, .int .i64 r.least]] w (Rets h w (fun _ _ res_ => res_ = .bool (zgm r))) := by
 refine zP (n := 23) Tryz.func87 Y Y Y<|have st0:=zbn hs;zf<|zC st0 (cs := [zN (r.cut), zN (r.put), .int .i64 (r.least)]) Y Y Y<|fun b1 w2 h3 le4 hc5 st6=>zJ Y Y<|Z<|zf<|E Y zbD Y zao Y Y<|U (j := 0) st6.sub hc5 Y Y Y zaC Y<|zh st6 Y Y Y Tryz.call126 Y (zhk st6.sub _ zbi _)<|fun r7 w8 h9 le10 st11 q12=> ?_;subst q12;refine zaa Y Y ?_;refine zaF (d := 6) rfl (fun g13 => ?_) (fun g13 => ?_)
 ·refine M Y Y Y<|E Y zbD Y zao Y Y<|M Y Y Y<|U (j := 1) st11.sub (hc5.up le10) Y Y Y zaC Y<|M Y Y Y<|zh st11 Y Y Y Tryz.call126 Y (zhk st11.sub _ zbi _)<|fun r14 w15 h16 le17 st18 q19=> ?_;subst q19;refine zW (v := (.bool _)) Y Y Y<|zaa Y Y ?_;refine zaF (d := 11) rfl (fun g20 => ?_) (fun g20 => ?_)
  ·refine M Y Y Y<|E Y zbD Y zao Y Y<|M Y Y Y<|U (j := 0) st18.sub (hc5.up (le10.t le17)) Y Y Y zaC Y<|M Y Y Y<|E Y zbD Y zao Y Y<|M Y Y Y<|U (j := 1) st18.sub (hc5.up (le10.t le17)) Y Y Y zaC Y<|M Y Y Y<|zj Y Y (r_sneq Y Y)<|zW (v := (.bool _)) Y Y Y<|zaa Y Y ?_;refine zal (d := 18) rfl (fun g21 => ?_) (fun g21 => ?_)
   ·refine M Y Y Y<|E Y zbD Y zq Y Y<|M Y Y Y<|U (j := 2) st18.sub (hc5.up (le10.t le17)) Y Y Y zF Y<|M Y Y Y<|zh st18 Y Y Y Tryz.call127 Y (zdR st18.sub _ _ _)<|fun r22 w23 h24 le25 st26 q27=> ?_;subst q27;refine zW (v := (.bool _)) Y Y Y<|zJ Y Y<|Z<|zx<|zc Tryz.results87 ?_;refine ⟨h24, _, rfl, st26.done, ?_⟩;refine zy ?_;simp_all [zgm]
   refine zS 3 Y<|zX (v := (.bool _)) Y Y Y<|zJ Y Y<|Z<|zx<|zc Tryz.results87 ?_;refine ⟨h16, _, rfl, st18.done, ?_⟩;refine zy ?_;simp_all [zgm]
  refine zS 5 Y<|zX (v := (.bool _)) Y Y Y<|zaa Y Y<|zS 3 Y<|zX (v := (.bool _)) Y Y Y<|zJ Y Y<|Z<|zx<|zc Tryz.results87 ?_;refine ⟨h16, _, rfl, st18.done, ?_⟩;refine zy ?_;simp_all [zgm]
 refine zS 3 Y<|zX (v := (.bool _)) Y Y Y<|zaa Y Y<|zS 5 Y<|zX (v := (.bool _)) Y Y Y<|zaa Y Y<|zS 3 Y<|zX (v := (.bool _)) Y Y Y<|zJ Y Y<|Z<|zx<|zc Tryz.results87 ?_;refine ⟨h9, _, rfl, st11.done, ?_⟩;refine zy ?_;simp_all [zgm]
theorem zeV {h : Heap} {w : World} (hs : Sub h w) {hd : Head} (hd_l1 : hd.stem.length ≤ 281474976710656) (hd_l2 : 0 ≤ hd.mark ∧ hd.mark ≤ 255) : Calls Tryz.prog 130 #[.agg #[zN hd.stem, .int .u8 hd.mark]] w (Rets h w (fun _ _ res_ => res_ = .bool (zdY hd))) := by
 refine zP (n := 12) Tryz.func130 Y Y Y<|have st0:=zbn hs;zf<|zC st0 (cs := [zN (hd.stem), .int .u8 (hd.mark)]) Y Y Y<|fun b1 w2 h3 le4 hc5 st6=>zJ Y Y<|Z<|zf<|E Y zbo Y zao Y Y<|U (j := 0) st6.sub hc5 Y Y Y zaC Y<|zh st6 Y Y Y Tryz.call129 Y (zeW st6.sub _ zbi)<|fun r7 w8 h9 le10 st11 q12=> ?_;subst q12;refine zaa Y Y ?_;refine zaF (d := 6) rfl (fun g13 => ?_) (fun g13 => ?_)
 ·refine M Y Y Y<|E Y zbo Y zbx Y Y<|M Y Y Y<|U (j := 1) st11.sub (hc5.up le10) Y Y Y zcb Y<|M Y Y Y ?_;refine zj rfl rfl (ziz rfl rfl zcp (IntWalk.i64_in _ zr)) ?_;refine M Y Y Y<|zh st11 Y Y Y Tryz.call127 Y (zdR st11.sub _ _ _)<|fun r14 w15 h16 le17 st18 q19=> ?_;subst q19;refine zW (v := (.bool _)) Y Y Y<|zJ Y Y<|Z<|zx<|zc Tryz.results130 ?_;refine ⟨h16, _, rfl, st18.done, ?_⟩;refine zy ?_;simp_all [zdY]
 refine zS 4 Y<|zX (v := (.bool _)) Y Y Y<|zJ Y Y<|Z<|zx<|zc Tryz.results130 ?_;refine ⟨h9, _, rfl, st11.done, ?_⟩;refine zy ?_;simp_all [zdY]
theorem c_postilref01_Before {h : Heap} {w : World} (hs : Sub h w) {a : Place} {b : Place} : Calls Tryz.prog 164 #[.agg #[.int .i64 a.chapter, .int .i64 a.line, .int .i64 a.word], .agg #[.int .i64 b.chapter, .int .i64 b.line, .int .i64 b.word]] w (Rets h w (fun _ _ res_ => res_ = .bool (zdo a b))) := by
 refine zP (n := 30) Tryz.func164 Y Y Y<|have st0:=zbn hs;zf<|zC st0 (cs := [.int .i64 (a.chapter), .int .i64 (a.line), .int .i64 (a.word)]) Y Y Y<|fun b1 w2 h3 le4 hc5 st6=>zC st6 (cs := [.int .i64 (b.chapter), .int .i64 (b.line), .int .i64 (b.word)]) Y Y Y<|fun b7 w8 h9 le10 hc11 st12=>zJ Y Y<|Z<|zl<|zf<|E Y zar Y zq Y Y<|U (j := 0) st12.sub (hc5.up le10) Y Y Y zF Y<|E Y zar Y zq Y Y<|U (j := 0) st12.sub hc11 Y Y Y zF Y<|zcK Y Y Y<|Z ?_;refine zG rfl (fun c13 => ?_) (fun c13 => ?_)
 ·refine zf<|E Y zar Y zq Y Y<|U (j := 0) st12.sub (hc5.up le10) Y Y Y zF Y<|E Y zar Y zq Y Y<|U (j := 0) st12.sub hc11 Y Y Y zF Y<|zaZ Y Y Y<|zJ Y Y<|Z<|zx<|zd<|zc Tryz.results164 ?_;refine ⟨h9, _, rfl, st12.done, ?_⟩;refine zy ?_;simp_all [zdo]
 refine zz<|O<|zl<|zf<|E Y zar Y zq Y Y<|U (j := 1) st12.sub (hc5.up le10) Y Y Y zF Y<|E Y zar Y zq Y Y<|U (j := 1) st12.sub hc11 Y Y Y zF Y<|zcK Y Y Y<|Z ?_;refine zG rfl (fun c14 => ?_) (fun c14 => ?_)
 ·refine zf<|E Y zar Y zq Y Y<|U (j := 1) st12.sub (hc5.up le10) Y Y Y zF Y<|E Y zar Y zq Y Y<|U (j := 1) st12.sub hc11 Y Y Y zF Y<|zaZ Y Y Y<|zJ Y Y<|Z<|zx<|zd<|zc Tryz.results164 ?_;refine ⟨h9, _, rfl, st12.done, ?_⟩;refine zy ?_;simp_all [zdo]
 refine zz<|O<|zf<|E Y zar Y zq Y Y<|U (j := 2) st12.sub (hc5.up le10) Y Y Y zF Y<|E Y zar Y zq Y Y<|U (j := 2) st12.sub hc11 Y Y Y zF Y<|zaZ Y Y Y<|zJ Y Y<|Z<|zx<|zc Tryz.results164 ?_;refine ⟨h9, _, rfl, st12.done, ?_⟩;refine zy ?_;simp_all [zdo]
end Go.Pk

namespace Go.Pk
open Go Go.RowKit Go.Proofs
theorem c_postilref01_Text {h : Heap} {w : World} (hs : Sub h w) {t : Text} {t_v0 : Value} (t_f0 : Sl LChapter h t_v0 t.chapters) : Calls Tryz.prog 200 #[.agg #[t_v0]] w (Rets h w (fun _ _ res_ => res_ = .bool (zbm t))) := by
 refine zP (n := 85) Tryz.func200 Y Y Y<|have st0:=zbn hs;have t_f0_b:=t_f0.le;zf<|zC st0 (cs := [t_v0]) Y Y Y<|fun b1 w2 h3 le4 hc5 st6=>zJ Y Y<|Z<|zl<|zf<|E Y zaO Y zbw Y Y<|U (j := 0) st6.sub hc5 Y Y Y zbV Y<|zaN (t_f0.up le4) Y zaB Y<|zh st6 Y Y Y zgL Y (zcF st6.sub _ _ _)<|fun r7 w8 h9 le10 st11 q12=> ?_;subst q12;refine zbA Y Y<|Z ?_;refine zaj rfl (fun c13 => ?_) (fun c13 => ?_)
 ·refine zf<|zJ Y Y<|Z<|zx<|zd<|zc zeY ?_;refine ⟨h9, _, rfl, st11.done, ?_⟩;refine zy ?_;simp_all [zbm]
 refine zz<|O<|zl<|zf<|zt Y Y<|Z<|zH ?_;refine zay (zbX 2 6 ++ zbX 13 72) (G := Nat × Heap) (fun ⟨i, h14⟩ => [(3, .int .i64 (i : Int))]) (fun ⟨i, h14⟩ w' => Le h9 h14 ∧ St h w h14 w' [] ∧ (i ≤ t.chapters.length) ∧ ((t.chapters.take i).all zbN = true) ∧ (((t.chapters.take i).map (·.id)).Nodup)) (fun ⟨i, h14⟩ => t.chapters.length - i) ⟨0, h9⟩ ⟨rfl, trivial⟩ ⟨Le.refl _, st11, zba, zba, zba⟩ ?_;rintro ⟨i, h14⟩ _ w17 ⟨le15, st16, hi, hA, hN⟩;refine zl<|zf<|zi Y Y<|E Y zaO Y zbw Y Y<|U (j := 0) st16.sub (hc5.up (le10.t le15)) Y Y Y zbV Y<|have l18:=(le4.t le10).t le15;zaN (t_f0.up l18) Y zaB Y<|zaZ Y Y Y<|Z ?_;refine zG rfl (fun c19 => ?_) (fun c19 => ?_)
 ·refine zz<|O<|zl<|zH<|zf<|E Y zaO Y zbw Y Y<|U (j := 0) st16.sub (hc5.up (le10.t le15)) Y Y Y zbV Y<|zi Y Y ?_;obtain ⟨c, hc⟩ : ∃ y_, (t.chapters)[i]? = some y_ := zbE zr;obtain ⟨b20, o21, _, he23, hc22, hr_c⟩ := Sl.elem (t_f0.up l18) hc;obtain ⟨v24, rfl, f25⟩ := hr_c;have f25_b := f25.le;refine zU he23 Y Y (hk := Y) (hu := zaB) (hz := zbq) Y<|zw st16.sub hc22 Y Tryz.isAgg107 zbq Y Y<|zR st16 Tryz.zeroValue107 Y Y<|fun b26 w27 st28=>zL st28 (k := 0) Y Y Y (zb Y (zb f25.one zas)) zbq Y Y Y<|fun w29 st30=> ?_;obtain ⟨h31, le32, hb33, st35⟩ := st30.freeze (k := 0) rfl;have hc34 := Cells.of hb33;refine Z<|zl<|zf<|E Y zaE Y zq Y Y<|U (j := 0) st35.sub hc34 Y Y Y zF Y<|zh st35 Y Y Y zgL Y (zcF st35.sub _ _ _)<|fun r36 w37 h38 le39 st40 q41=> ?_;subst q41;refine zbA Y Y<|zaa Y Y ?_;refine zaF (d := 29) rfl (fun g42 => ?_) (fun g42 => ?_)
  ·refine zS 5 Y<|zW (v := (.bool _)) Y Y Y<|Z ?_;refine zaj rfl (fun c43 => ?_) (fun c43 => ?_)
   ·refine zf<|zJ Y Y<|Z<|zx<|zd<|zK<|zd<|zd<|zK<|zd<|zc zeY ?_;refine ⟨h38, _, rfl, st40.done, ?_⟩;refine zy ?_;have q0 : zbN c = false := by simp_all [zbN]
    have q := zcT (p := zbN) hc q0;simp [zbm, q]
   cases c43
  refine M Y Y Y<|E Y zaE Y zbH Y Y<|M Y Y Y<|U (j := 1) st40.sub (hc34.up le39) Y Y Y zcj Y<|M Y Y Y<|zaN (f25.up (le32.t le39)) Y zaL Y<|M Y Y Y<|zh st40 Y Y Y zgL Y (zcF st40.sub _ _ _)<|fun r44 w45 h46 le47 st48 q49=> ?_;subst q49;refine M Y Y Y<|zbA Y Y<|zX (v := (.bool _)) Y Y Y<|Z ?_;refine zaj rfl (fun c50 => ?_) (fun c50 => ?_)
  ·refine zf<|zJ Y Y<|Z<|zx<|zd<|zK<|zd<|zd<|zK<|zd<|zc zeY ?_;refine ⟨h46, _, rfl, st48.done, ?_⟩;refine zy ?_;have q0 : zbN c = false := by simp_all [zbN]
   have q := zcT (p := zbN) hc q0;simp [zbm, q]
  refine zz<|O<|zl<|zf<|zt Y Y<|Z<|zH ?_;refine zay ([2, 5] ++ zbX 36 14) (G := Nat × Heap) (fun ⟨k1, h51⟩ => [(5, .int .i64 (k1 : Int))]) (fun ⟨k1, h51⟩ w' => Le h46 h51 ∧ St h w h51 w' [[]] ∧ (k1 ≤ i) ∧ (∀ j c2, j < k1 → t.chapters[j]? = some c2 → c2.id ≠ c.id)) (fun ⟨k1, h51⟩ => i - k1) ⟨0, h46⟩ ⟨rfl, trivial⟩ ⟨Le.refl _, st48, zba, (by intro j _ hj; omega)⟩ ?_;rintro ⟨k1, h51⟩ _ w54 ⟨le52, st53, hk1, hd⟩;refine zl<|zf<|zi Y Y<|zi Y Y<|zaZ Y Y Y<|Z ?_;refine zG rfl (fun c55 => ?_) (fun c55 => ?_)
  ·refine zz<|O<|zl<|zH<|zl<|zbW Tryz.mixed za (Cls h51 _) (Cls.drew st53)<|zab Y zaO Y zbw Y Y<|have l56:=((((le10.t le15).t le32).t le39).t le47).t le52;zB Y Y (fun _ hC => (zg (j := 0) hC.sub (hc5.up l56) Y Y Y zbV))<|zdl Y Y ?_;obtain ⟨cc, hcc⟩ : ∃ y_, (t.chapters)[k1]? = some y_ := zbE zr;have l61 := (((l18.t le32).t le39).t le47).t le52;obtain ⟨b57, o58, _, he60, hc59, hr_cc⟩ := Sl.elem (t_f0.up l61) hcc;obtain ⟨v62, rfl, f63⟩ := hr_cc;have f63_b := f63.le;refine zch he60 Y Y (hk := Y) (hu := zaB) (hz := zbq) Y<|zab Y zaE Y zq Y Y<|zB Y Y (fun _ hC => (zg (j := 0) hC.sub hc59 Y Y Y zF))<|zab Y zaE Y zq Y Y<|zB Y Y (fun _ hC => (zg (j := 0) hC.sub (hc34.up ((le39.t le47).t le52)) Y Y Y zF))<|u_eql Y Y Y<|zbF ?_;rintro w64 ⟨h65, s66⟩;have st67 := st53.call0 s66;refine O ?_;refine zG rfl (fun c68 => ?_) (fun c68 => ?_)
   ·refine zf<|zJ Y Y<|Z<|zx<|zK<|zd<|zd<|zK<|zd<|zK<|zd<|zd<|zK<|zd<|zc zeY ?_;refine ⟨h65, _, rfl, st67.done, ?_⟩;refine zy ?_;have q := zjj (f := (·.id)) hcc hc zr (by assumption);simp [zbm, q]
   refine zz<|zQ<|O<|zn<|zi Y Y<|zaQ Y Y zaY Y<|zt Y Y<|Z ?_;refine ⟨⟨k1 + 1, h65⟩, ⟨rfl, trivial⟩, ?_, ⟨(le52.trans s66.le), st67, ?_, ?_⟩, ?_⟩
   ·exact zax
   ·first | omega | (simp; omega)
   ·intro j c2 h1 h2
    rcases Nat.lt_or_ge j k1 with h3 | h3
    ·exact hd j c2 h3 h2
    ·obtain rfl : j = k1 := by omega
     rw [h2] at hcc; cases hcc; assumption
   show i - ((k1 + 1)) < i - k1;omega
  refine zaJ<|zm<|zm<|zap<|O<|zf<|zt Y Y<|Z<|zH ?_;refine zay ([2, 6, 7] ++ zbX 50 35) (G := Nat × Heap) (fun ⟨k2, h69⟩ => [(6, .int .i64 (k2 : Int))]) (fun ⟨k2, h69⟩ w' => Le h51 h69 ∧ St h w h69 w' [[]] ∧ (k2 ≤ c.lines.length) ∧ ((c.lines.take k2).all zgE = true)) (fun ⟨k2, h69⟩ => c.lines.length - k2) ⟨0, h51⟩ ⟨rfl, trivial⟩ ⟨Le.refl _, st53, zba, zba⟩ ?_;rintro ⟨k2, h69⟩ _ w72 ⟨le70, st71, hk2, hl⟩;refine zl<|zf<|zi Y Y<|E Y zaE Y zbH Y Y<|have l73:=((le39.t le47).t le52).t le70;U (j := 1) st71.sub (hc34.up l73) Y Y Y zcj Y<|have l74:=(((le32.t le39).t le47).t le52).t le70;zaN (f25.up l74) Y zaL Y<|zaZ Y Y Y<|Z ?_;refine zG rfl (fun c75 => ?_) (fun c75 => ?_)
  ·refine zz<|O<|zl<|zH<|zl<|zf<|E Y zaE Y zbH Y Y<|U (j := 1) st71.sub (hc34.up l73) Y Y Y zcj Y<|zi Y Y ?_;obtain ⟨ln, hln⟩ : ∃ y_, (c.lines)[k2]? = some y_ := zbE zr;obtain ⟨b76, o77, _, he79, hc78, hr_ln⟩ := Sl.elem (f25.up l74) hln;obtain ⟨v80, rfl, f81⟩ := hr_ln;have f81_b := f81.le;refine zU he79 Y Y (hk := Y) (hu := zaL) (hz := zdK) Y<|U (j := 0) st71.sub hc78 Y Y Y zek Y<|zaN f81 Y zV Y<|zh st71 Y Y Y zgL Y (zcF st71.sub _ _ _)<|fun r82 w83 h84 le85 st86 q87=> ?_;subst q87;refine zbA Y Y<|Z ?_;refine zaj rfl (fun c88 => ?_) (fun c88 => ?_)
   ·refine zf<|zJ Y Y<|Z<|zx<|zd<|zK<|zd<|zd<|zK<|zK<|zd<|zd<|zK<|zd<|zc zeY ?_;refine ⟨h84, _, rfl, st86.done, ?_⟩;refine zy ?_;have q1 : zgE ln = false := by simp_all [zgE]
    have q2 := zcT (p := zgE) hln q1;have q0 : zbN c = false := by simp [zbN, q2]
    have q := zcT (p := zbN) hc q0;simp [zbm, q]
   refine zz<|O<|zf<|zt Y Y<|Z<|zH ?_;refine zay ([2, 7] ++ zbX 65 20) (G := Nat × Heap) (fun ⟨k3, h89⟩ => [(7, .int .i64 (k3 : Int))]) (fun ⟨k3, h89⟩ w' => Le h84 h89 ∧ St h w h89 w' [[]] ∧ (k3 ≤ ln.length) ∧ ((ln.take k3).all zdx = true)) (fun ⟨k3, h89⟩ => ln.length - k3) ⟨0, h84⟩ ⟨rfl, trivial⟩ ⟨Le.refl _, st86, zba, zba⟩ ?_;rintro ⟨k3, h89⟩ _ w92 ⟨le90, st91, hk3, hw⟩;refine zl<|zf<|zi Y Y<|E Y zaE Y zbH Y Y<|U (j := 1) st91.sub (hc34.up ((l73.t le85).t le90)) Y Y Y zcj Y<|zi Y Y<|zU he79 Y Y (hk := Y) (hu := zaL) (hz := zdK) Y<|U (j := 0) st91.sub (hc78.up (le85.t le90)) Y Y Y zek Y<|zaN (f81.up (le85.t le90)) Y zV Y<|zaZ Y Y Y<|Z ?_;refine zG rfl (fun c93 => ?_) (fun c93 => ?_)
   ·refine zz<|O<|zl<|zH<|zf<|E Y zaE Y zbH Y Y<|U (j := 1) st91.sub (hc34.up ((l73.t le85).t le90)) Y Y Y zcj Y<|zi Y Y<|zU he79 Y Y (hk := Y) (hu := zaL) (hz := zdK) Y<|U (j := 0) st91.sub (hc78.up (le85.t le90)) Y Y Y zek Y<|zi Y Y ?_;obtain ⟨y94, hy94⟩ : ∃ y_, (ln)[k3]? = some y_ := zbE zr;obtain ⟨b95, o96, _, he98, hc97, hr_y94⟩ := Sl.elem (f81.up (le85.t le90)) hy94;obtain ⟨rfl, ls99⟩ := hr_y94;simp only [big] at ls99;refine zU he98 Y Y (hk := Y) (hu := zV) (hz := zao) Y<|U (j := 0) st91.sub hc97 Y Y Y zaC Y<|zh st91 Y Y Y Tryz.call129 Y (zeW st91.sub _ zbi)<|fun r100 w101 h102 le103 st104 q105=> ?_;subst q105;refine zbA Y Y<|Z ?_;refine zaj rfl (fun c106 => ?_) (fun c106 => ?_)
    ·refine zf<|zJ Y Y<|Z<|zx<|zK<|zd<|zd<|zK<|zK<|zd<|zd<|zK<|zK<|zd<|zd<|zK<|zd<|zc zeY ?_;refine ⟨h102, _, rfl, st104.done, ?_⟩;refine zy ?_;have q3 := zcT (p := zdx) (by assumption) (by simpa using c106);have q1 : zgE ln = false := by simp [zgE, q3]
     have q2 := zcT (p := zgE) hln q1;have q0 : zbN c = false := by simp [zbN, q2]
     have q := zcT (p := zbN) hc q0;simp [zbm, q]
    refine zz<|zQ<|O<|zn<|zi Y Y<|zaQ Y Y zaY Y<|zt Y Y<|Z ?_;refine ⟨⟨k3 + 1, h102⟩, ⟨rfl, trivial⟩, ?_, ⟨(le90.t le103), st104, ?_, ?_⟩, ?_⟩
    ·exact zax
    ·first | omega | (simp; omega)
    ·exact zcD hw (by assumption) (by simp_all)
    show ln.length - ((k3 + 1)) < ln.length - k3;omega
   refine zaJ<|zm<|zm<|zap<|zQ<|O<|zn<|zi Y Y<|zaQ Y Y zaY Y<|zt Y Y<|Z ?_;refine ⟨⟨k2 + 1, h89⟩, ⟨rfl, trivial⟩, ?_, ⟨((le70.t le85).t le90), st91, ?_, ?_⟩, ?_⟩
   ·exact zax
   ·first | omega | (simp; omega)
   ·exact zcD hl hln (by simp_all [zgE, zdg hw zr])
   show c.lines.length - ((k2 + 1)) < c.lines.length - k2;omega
  refine zaJ<|zm<|zm<|zap<|zQ<|O<|zn<|zi Y Y<|zaQ Y Y zaY Y<|zt Y Y<|Z ?_;have HCH : zbN c = true := by
   have q := zdg hl zr;simp_all [zbN]
  have l107 := ((((le15.t le32).t le39).t le47).t le52).t le70;refine ⟨⟨i + 1, h69⟩, ⟨rfl, trivial⟩, ?_, ⟨l107, st71.take 0, ?_, ?_, ?_⟩, ?_⟩
  ·exact zax
  ·first | omega | (simp; omega)
  ·exact zcD hA hc HCH
  ·exact nodup_take_succ hN hc zr (fun j c2 h1 h2 => hd j c2 zr h2)
  show t.chapters.length - ((i + 1)) < t.chapters.length - i;omega
 refine zaJ<|zm<|zm<|zap<|O<|zf<|zJ Y Y<|Z<|zx<|zc zeY ?_;refine ⟨h14, _, rfl, st16.done, ?_⟩;refine zy ?_;have q := zdg hA zr;have q2 : t.chapters.take i = t.chapters := List.take_of_length_le zr;rw [q2] at hN;simp_all [zbm]
theorem c_postilref01_Check {h : Heap} {w : World} (hs : Sub h w) {t : Text} {t_v0 : Value} (t_f0 : Sl LChapter h t_v0 t.chapters) : Calls Tryz.prog 163 #[.agg #[t_v0]] w (Rets h w (fun _ _ res_ => res_ = .int .i64 ((if zbm t then 0 else 10)))) := by
 refine zP (n := 6) Tryz.func163 Y Y Y<|have st0:=zbn hs;have t_f0_b:=t_f0.le;zf<|zC st0 (cs := [t_v0]) Y Y Y<|fun b1 w2 h3 le4 hc5 st6=>zt Y Y<|Z<|zl<|zf<|zw st6.sub hc5 Y zbb zai Y Y<|zh st6 Y Y Y Tryz.call200 Y (c_postilref01_Text st6.sub (t := t) (t_f0.up le4))<|fun r7 w8 h9 le10 st11 q12=> ?_;subst q12;refine zbA Y Y<|Z ?_;refine zaj rfl (fun c13 => ?_) (fun c13 => ?_)
 ·refine zf<|zt Y Y<|Z<|zx<|zd<|zc Tryz.results163 ?_;refine ⟨h9, _, rfl, st11.done, ?_⟩;refine zag ?_;simp_all
 refine zz<|O<|zf<|zt Y Y<|Z<|zx<|zc Tryz.results163 ?_;refine ⟨h9, _, rfl, st11.done, ?_⟩;refine zag ?_;simp_all
theorem c_postilref01_line {h : Heap} {w : World} (hs : Sub h w) {t : Text} {t_v0 : Value} (t_f0 : Sl LChapter h t_v0 t.chapters) {p : Place} : Calls Tryz.prog 180 #[.agg #[t_v0], .agg #[.int .i64 p.chapter, .int .i64 p.line, .int .i64 p.word]] w (Rets h w (fun h' _ res_ => ∃ u0, res_ = .tuple #[u0, .bool ((zde t p).isSome)] ∧ Sl LStr h' u0 ((zde t p).getD []))) := by
 refine zP (n := 40) Tryz.func180 Y Y Y<|have st0:=zbn hs;have t_f0_b:=t_f0.le;zf<|zC st0 (cs := [t_v0]) Y Y Y<|fun b1 w2 h3 le4 hc5 st6=>zC st6 (cs := [.int .i64 (p.chapter), .int .i64 (p.line), .int .i64 (p.word)]) Y Y Y<|fun b7 w8 h9 le10 hc11 st12=>zco Y Y<|zJ Y Y<|Z<|zl<|zl<|zbW Tryz.mixed za (Cls h9 _) (Cls.drew st12)<|zab Y zar Y zq Y Y<|zB Y Y (fun _ hC => (zg (j := 0) hC.sub hc11 Y Y Y zF))<|zab Y zaO Y zbw Y Y<|zB Y Y (fun _ hC => (zg (j := 0) hC.sub (hc5.up le10) Y Y Y zbV))<|have l13:=le4.t le10;u_len (t_f0.up l13) Y zaB Y<|u_sub Y Y zaY Y<|zdf Y Y (fun _ => zaV Y zgL Y) (fun _ hC => Rets.quiet hC (zcF hC.sub _ _ _))<|u_not Y Y<|zhZ Y Y ?_;refine zgA (d := 14) rfl (fun g14 => ?_) (fun g14 => ?_)
 ·refine zhc 13 Y<|zgP (v := (.bool _)) Y Y Y<|zbF ?_;rintro w15 ⟨h16, s17⟩;have st18 := st12.call0 s17;refine O ?_;refine zaj rfl (fun c19 => ?_) (fun c19 => ?_)
  ·refine zf<|zco Y Y<|zJ Y Y<|Z<|zx<|zd<|zaR Tryz.results180 ?_;refine ⟨h16, _, rfl, st18.done, ?_⟩;refine ⟨_, zdh rfl (zy ?_), Sl.to (Sl.nil _ _) ?_⟩
   all_goals have q := g14
   all_goals simp [inB] at q
   ·have q2 : zde t p = none := line_none1 zr;simp [q2]
   have q2 : zde t p = none := line_none1 zr;simp [q2]
  cases c19
 refine zD Y Y Y<|zab Y zar Y zq Y Y<|zD Y Y Y<|zB Y Y (fun _ hC => (zg (j := 1) hC.sub hc11 Y Y Y zF))<|zD Y Y Y<|zab Y zaO Y zbw Y Y<|zD Y Y Y<|zB Y Y (fun _ hC => (zg (j := 0) hC.sub (hc5.up le10) Y Y Y zbV))<|zD Y Y Y<|zab Y zar Y zq Y Y<|zD Y Y Y<|zB Y Y (fun _ hC => (zg (j := 0) hC.sub hc11 Y Y Y zF))<|zD Y Y Y ?_;have q1 : 0 ≤ p.chapter ∧ p.chapter < t.chapters.length := by
  have q := g14;simp [inB] at q;omega
 obtain ⟨c, hc⟩ : ∃ y_, (t.chapters)[p.chapter.toNat]? = some y_ := zbE zr;obtain ⟨b20, o21, _, he23, hc22, hr_c⟩ := Sl.elem (t_f0.up l13) hc;obtain ⟨v24, rfl, f25⟩ := hr_c;have f25_b := f25.le;refine zB rfl rfl (fun _ _ => (zav he23 rfl rfl (hk := (show _ = ((p.chapter.toNat : Nat) : Int) by omega)) (hu := zaB) (hz := zbq))) ?_;refine zD Y Y Y<|zab Y zaE Y zbH Y Y<|zD Y Y Y<|zB Y Y (fun _ hC => (zg (j := 1) hC.sub hc22 Y Y Y zcj))<|zD Y Y Y<|u_len f25 Y zaL Y<|zD Y Y Y<|u_sub Y Y zaY Y<|zD Y Y Y<|zdf Y Y (fun _ => zaV Y zgL Y) (fun _ hC => Rets.quiet hC (zcF hC.sub _ _ _))<|zD Y Y Y<|u_not Y Y<|zeG (v := (.bool _)) Y Y Y<|zbF ?_;rintro w26 ⟨h27, s28⟩;have st29 := st12.call0 s28;refine O ?_;refine zaj rfl (fun c30 => ?_) (fun c30 => ?_)
 ·refine zf<|zco Y Y<|zJ Y Y<|Z<|zx<|zd<|zaR Tryz.results180 ?_;refine ⟨h27, _, rfl, st29.done, ?_⟩;refine ⟨_, zdh rfl (zy ?_), Sl.to (Sl.nil _ _) ?_⟩
  all_goals have q := c30
  all_goals simp [inB] at q
  ·have q2 : zde t p = none := line_none2 hc zr;simp [q2]
  have q2 : zde t p = none := line_none2 hc zr;simp [q2]
 refine zz<|O<|zl ?_;have q2 : 0 ≤ p.line ∧ p.line < c.lines.length := by
  have q := c30;simp [inB] at q;omega
 refine zbW Tryz.mixed za (Cls h27 _) (Cls.drew st29)<|zab Y zaO Y zbw Y Y<|zB Y Y (fun _ hC => (zg (j := 0) hC.sub (hc5.up (le10.trans s28.le)) Y Y Y zbV))<|zab Y zar Y zq Y Y<|zB Y Y (fun _ hC => (zg (j := 0) hC.sub (hc11.up s28.le) Y Y Y zF)) ?_;refine zB rfl rfl (fun _ _ => (zav he23 rfl rfl (hk := (show _ = ((p.chapter.toNat : Nat) : Int) by omega)) (hu := zaB) (hz := zbq))) ?_;refine zab Y zaE Y zbH Y Y<|zB Y Y (fun _ hC => (zg (j := 1) hC.sub (hc22.up s28.le) Y Y Y zcj))<|zab Y zar Y zq Y Y<|zB Y Y (fun _ hC => (zg (j := 1) hC.sub (hc11.up s28.le) Y Y Y zF)) ?_;obtain ⟨ln, hln⟩ : ∃ y_, (c.lines)[p.line.toNat]? = some y_ := zbE zr;obtain ⟨b31, o32, _, he34, hc33, hr_ln⟩ := Sl.elem (f25.up s28.le) hln;obtain ⟨v35, rfl, f36⟩ := hr_ln;have f36_b := f36.le;refine zB rfl rfl (fun _ _ => (zav he34 rfl rfl (hk := (show _ = ((p.line.toNat : Nat) : Int) by omega)) (hu := zaL) (hz := zdK))) ?_;refine zB Y Y (fun _ hC => (zg (j := 0) hC.sub hc33 Y Y Y zek))<|u_assign (v := v35) Y Y<|u_asB Y Y<|zbF ?_;rintro w37 ⟨h38, s39⟩;have st40 := st29.call0 s39;refine O<|zx<|zaR Tryz.results180 ?_;refine ⟨h38, _, rfl, st40.done, ?_⟩;refine ⟨_, zdh rfl (zy ?_), Sl.to (f36.up s39.le) ?_⟩
 ·simp [line_some hc q1.1 hln q2.1]
 simp [line_some hc q1.1 hln q2.1]
theorem zic {h : Heap} {w : World} (hs : Sub h w) {t : Text} {t_v0 : Value} (t_f0 : Sl LChapter h t_v0 t.chapters) {p : Place} : Calls Tryz.prog 128 #[.agg #[t_v0], .agg #[.int .i64 p.chapter, .int .i64 p.line, .int .i64 p.word]] w (Rets h w (fun _ _ res_ => res_ = .bool (zbu t p))) := by
 refine zP (n := 22) Tryz.func128 Y Y Y<|have st0:=zbn hs;have t_f0_b:=t_f0.le;zf<|zC st0 (cs := [t_v0]) Y Y Y<|fun b1 w2 h3 le4 hc5 st6=>zC st6 (cs := [.int .i64 (p.chapter), .int .i64 (p.line), .int .i64 (p.word)]) Y Y Y<|fun b7 w8 h9 le10 hc11 st12=>zJ Y Y<|Z<|zf<|zw st12.sub (hc5.up le10) Y zbb zai Y Y<|zw st12.sub hc11 Y zaD zO Y Y<|have l13:=le4.t le10;zh st12 Y Y Y Tryz.call180 Y (c_postilref01_line st12.sub (t := t) (t_f0.up l13) (p := p))<|fun r14 w15 h16 le17 st18 q19=> ?_;obtain ⟨v20, rfl, f21⟩ := q19;have f21_b := f21.le;refine zcB Y Y<|zM (v := v20) Y Y Y<|zM (v := (.bool _)) Y Y Y<|zaf (v := v20) Y Y<|zJ Y Y<|Z<|zf<|zaa Y Y<|zaa Y Y ?_;refine zaF (d := 14) rfl (fun g22 => ?_) (fun g22 => ?_)
 ·refine M Y Y Y<|E Y zar Y zq Y Y<|M Y Y Y<|U (j := 2) st18.sub (hc11.up le17) Y Y Y zF Y<|M Y Y Y<|zT (v := v20) Y Y<|M Y Y Y<|zaN f21 Y zV Y<|M Y Y Y<|zjf Y Y zaY Y<|M Y Y Y<|zh st18 Y Y Y zgL Y (zcF st18.sub _ _ _)<|fun r23 w24 h25 le26 st27 q28=> ?_;subst q28;refine zW (v := (.bool _)) Y Y Y<|zJ Y Y<|Z<|zx<|zc Tryz.results128 ?_;refine ⟨h25, _, rfl, st27.done, ?_⟩;refine zy ?_;simp_all [place_eq]
 refine zS 6 Y<|zX (v := (.bool _)) Y Y Y<|zJ Y Y<|Z<|zx<|zc Tryz.results128 ?_;refine ⟨h16, _, rfl, st18.done, ?_⟩;refine zy ?_;simp_all [place_eq]
theorem zjN {h : Heap} {w : World} (hs : Sub h w) {t : Text} {t_v0 : Value} (t_f0 : Sl LChapter h t_v0 t.chapters) {d : Decision} (d_l2 : 0 ≤ d.kind ∧ d.kind ≤ 255) (d_l3 : d.form.length ≤ 281474976710656) (d_l7 : d.to.stem.length ≤ 281474976710656) (d_l8 : 0 ≤ d.to.mark ∧ d.to.mark ≤ 255) : Calls Tryz.prog 88 #[.agg #[t_v0], .agg #[.int .i64 d.number, .int .u8 d.kind, zN d.form, .int .i64 d.at_.chapter, .int .i64 d.at_.line, .int .i64 d.at_.word, zN d.to.stem, .int .u8 d.to.mark, .int .i64 d.of_]] w (Rets h w (fun _ _ res_ => res_ = .bool (zan t d))) := by
 refine zP (n := 102) Tryz.func88 Y Y Y<|have st0:=zbn hs;have t_f0_b:=t_f0.le;zf<|zC st0 (cs := [t_v0]) Y Y Y<|fun b1 w2 h3 le4 hc5 st6=>zC st6 (cs := [.int .i64 (d.number), .int .u8 (d.kind), zN (d.form), .int .i64 (d.at_.chapter), .int .i64 (d.at_.line), .int .i64 (d.at_.word), zN (d.to.stem), .int .u8 (d.to.mark), .int .i64 (d.of_)]) Y Y Y<|fun b7 w8 h9 le10 hc11 st12=>zJ Y Y<|Z<|zl<|zf<|E Y zo Y zq Y Y<|U (j := 0) st12.sub hc11 Y Y Y zF Y<|zh st12 Y Y Y Tryz.call127 Y (zdR st12.sub _ _ _)<|fun r13 w14 h15 le16 st17 q18=> ?_;subst q18;refine zbA Y Y<|Z ?_;refine zaj rfl (fun c19 => ?_) (fun c19 => ?_)
 ·refine zf<|zJ Y Y<|Z<|zx<|zd<|zc zcv ?_;refine ⟨h15, _, rfl, st17.done, ?_⟩;refine zy ?_;simp_all [zan]
 have qn : 1 ≤ d.number ∧ d.number ≤ 999 := by
  have q := c19;simp [inB] at q;omega
 refine zz<|O<|zf<|zj Y Y (zbs (cs := [.int .i64 0, .int .i64 0, .int .i64 0]) za)<|zj Y Y (zbs (cs := [zN [], .int .u8 0]) za)<|zw st17.sub (hc5.up (le10.t le16)) Y zbb zai Y Y<|E Y zo Y zO Y Y<|zZ (j := 3) st17.sub (hc11.up le16) (us := [.int .i64 (d.at_.chapter), .int .i64 (d.at_.line), .int .i64 (d.at_.word)]) Y Y zaD zO Y Y Y<|have l20:=(le4.t le10).t le16;zh st17 Y Y Y Tryz.call128 Y (zic st17.sub (t := t) (t_f0.up l20) (p := d.at_))<|fun r21 w22 h23 le24 st25 q26=> ?_;subst q26;refine zR st25 Tryz.zeroValue49 Y Y<|fun b27 w28 st29=>zR st29 zeB Y Y<|fun b30 w31 st32=>zL st32 (k := 0) Y Y Y (zb Y (zb Y (zb Y zas))) zO Y Y Y<|fun w33 st34=> ?_;obtain ⟨h35, le36, hb37, st39⟩ := st34.freeze (k := 0) rfl;have hc38 := Cells.of hb37;refine zL st39 (k := 1) Y Y Y (zb Y (zb Y zas)) zad Y Y Y<|fun w40 st41=> ?_;obtain ⟨h42, le43, hb44, st46⟩ := st41.freeze (k := 1) rfl;have hc45 := Cells.of hb44;refine zJ Y Y<|Z<|zl<|zf<|E Y zo Y zbx Y Y<|have l47:=((le16.t le24).t le36).t le43;U (j := 1) st46.sub (hc11.up l47) Y Y Y zcb Y<|Z<|zH<|zf<|zdB Y Y Y<|zJ Y Y<|Z ?_;refine zG rfl (fun c48 => ?_) (fun c48 => ?_)
 ·refine zf<|E Y zo Y zao Y Y<|U (j := 2) st46.sub (hc11.up l47) Y Y Y zaC Y<|zh st46 Y Y Y Tryz.call129 Y (zeW st46.sub _ zbi)<|fun r49 w50 h51 le52 st53 q54=> ?_;subst q54;refine zaa Y Y ?_;refine zaF (d := 25) rfl (fun g55 => ?_) (fun g55 => ?_)
  ·refine M Y Y Y<|E Y zo Y zO Y Y<|M Y Y Y<|zZ (j := 3) st53.sub (hc11.up (l47.t le52)) (us := [.int .i64 (d.at_.chapter), .int .i64 (d.at_.line), .int .i64 (d.at_.word)]) Y Y zaD zO Y Y Y<|M Y Y Y<|zw st53.sub (hc38.up (le43.t le52)) Y zaD zO Y Y<|M Y Y Y<|zj Y Y (zgs Y Y zfg (Tryz.eq_Place d.at_ zdN))<|zW (v := (.bool _)) Y Y Y<|zaa Y Y ?_;refine zal (d := 31) rfl (fun g56 => ?_) (fun g56 => ?_)
   ·refine M Y Y Y<|E Y zo Y zad Y Y<|M Y Y Y<|zZ (j := 6) st53.sub (hc11.up (l47.t le52)) (us := [zN (d.to.stem), .int .u8 (d.to.mark)]) Y Y zbr zad Y Y Y<|M Y Y Y<|zh st53 Y Y Y Tryz.call130 Y (zeV st53.sub (hd := d.to) zbi zeb)<|fun r57 w58 h59 le60 st61 q62=> ?_;subst q62;refine zW (v := (.bool _)) Y Y Y<|zaa Y Y ?_;refine zaF (d := 36) rfl (fun g63 => ?_) (fun g63 => ?_)
    ·refine M Y Y Y<|E Y zo Y zq Y Y<|M Y Y Y<|U (j := 8) st61.sub (hc11.up ((l47.t le52).t le60)) Y Y Y zF Y<|M Y Y Y<|zdB Y Y Y<|zW (v := (.bool _)) Y Y Y<|zJ Y Y<|Z<|zx<|zK<|zd<|zc zcv ?_;refine ⟨h59, _, rfl, st61.done, ?_⟩;refine zy ?_;simp_all [zan]
    refine zS 3 Y<|zX (v := (.bool _)) Y Y Y<|zJ Y Y<|Z<|zx<|zK<|zd<|zc zcv ?_;refine ⟨h59, _, rfl, st61.done, ?_⟩;refine zy ?_;simp_all [zan]
   refine zS 3 Y<|zX (v := (.bool _)) Y Y Y<|zaa Y Y<|zS 3 Y<|zX (v := (.bool _)) Y Y Y<|zJ Y Y<|Z<|zx<|zK<|zd<|zc zcv ?_;refine ⟨h51, _, rfl, st53.done, ?_⟩;refine zy ?_;simp_all [zan]
  refine zS 4 Y<|zX (v := (.bool _)) Y Y Y<|zaa Y Y<|zS 3 Y<|zX (v := (.bool _)) Y Y Y<|zaa Y Y<|zS 3 Y<|zX (v := (.bool _)) Y Y Y<|zJ Y Y<|Z<|zx<|zK<|zd<|zc zcv ?_;refine ⟨h51, _, rfl, st53.done, ?_⟩;refine zy ?_;simp_all [zan]
 refine zf<|zdB Y Y Y<|zJ Y Y<|Z ?_;refine zG rfl (fun c64 => ?_) (fun c64 => ?_)
 ·refine zf<|E Y zo Y zao Y Y<|U (j := 2) st46.sub (hc11.up l47) Y Y Y zaC Y<|zh st46 Y Y Y Tryz.call129 Y (zeW st46.sub _ zbi)<|fun r65 w66 h67 le68 st69 q70=> ?_;subst q70;refine zaa Y Y ?_;refine zaF (d := 46) rfl (fun g71 => ?_) (fun g71 => ?_)
  ·refine M Y Y Y<|zaa Y Y<|zW (v := (.bool _)) Y Y Y<|zaa Y Y ?_;refine zaF (d := 49) rfl (fun g72 => ?_) (fun g72 => ?_)
   ·refine M Y Y Y<|E Y zo Y zad Y Y<|M Y Y Y<|zZ (j := 6) st69.sub (hc11.up (l47.t le68)) (us := [zN (d.to.stem), .int .u8 (d.to.mark)]) Y Y zbr zad Y Y Y<|M Y Y Y<|zh st69 Y Y Y Tryz.call130 Y (zeV st69.sub (hd := d.to) zbi zeb)<|fun r73 w74 h75 le76 st77 q78=> ?_;subst q78;refine zW (v := (.bool _)) Y Y Y<|zaa Y Y ?_;refine zaF (d := 54) rfl (fun g79 => ?_) (fun g79 => ?_)
    ·refine M Y Y Y<|E Y zo Y zq Y Y<|M Y Y Y<|U (j := 8) st77.sub (hc11.up ((l47.t le68).t le76)) Y Y Y zF Y<|M Y Y Y<|zdB Y Y Y<|zW (v := (.bool _)) Y Y Y<|zJ Y Y<|Z<|zx<|zK<|zd<|zc zcv ?_;refine ⟨h75, _, rfl, st77.done, ?_⟩;refine zy ?_;simp_all [zan]
    refine zS 3 Y<|zX (v := (.bool _)) Y Y Y<|zJ Y Y<|Z<|zx<|zK<|zd<|zc zcv ?_;refine ⟨h75, _, rfl, st77.done, ?_⟩;refine zy ?_;simp_all [zan]
   refine zS 3 Y<|zX (v := (.bool _)) Y Y Y<|zaa Y Y<|zS 3 Y<|zX (v := (.bool _)) Y Y Y<|zJ Y Y<|Z<|zx<|zK<|zd<|zc zcv ?_;refine ⟨h67, _, rfl, st69.done, ?_⟩;refine zy ?_;simp_all [zan]
  refine zS 1 Y<|zX (v := (.bool _)) Y Y Y<|zaa Y Y<|zS 3 Y<|zX (v := (.bool _)) Y Y Y<|zaa Y Y<|zS 3 Y<|zX (v := (.bool _)) Y Y Y<|zJ Y Y<|Z<|zx<|zK<|zd<|zc zcv ?_;refine ⟨h67, _, rfl, st69.done, ?_⟩;refine zy ?_;simp_all [zan]
 refine zf<|zdB Y Y Y<|zJ Y Y<|Z ?_;refine zG rfl (fun c80 => ?_) (fun c80 => ?_)
 ·refine zf<|E Y zo Y zao Y Y<|U (j := 2) st46.sub (hc11.up l47) Y Y Y zaC Y<|v_seql Y Y Y<|zaa Y Y ?_;refine zal (d := 64) rfl (fun g81 => ?_) (fun g81 => ?_)
  ·refine M Y Y Y<|zaa Y Y<|zW (v := (.bool _)) Y Y Y<|zaa Y Y ?_;refine zaF (d := 67) rfl (fun g82 => ?_) (fun g82 => ?_)
   ·refine M Y Y Y<|E Y zo Y zad Y Y<|M Y Y Y<|zZ (j := 6) st46.sub (hc11.up l47) (us := [zN (d.to.stem), .int .u8 (d.to.mark)]) Y Y zbr zad Y Y Y<|M Y Y Y<|zh st46 Y Y Y Tryz.call130 Y (zeV st46.sub (hd := d.to) zbi zeb)<|fun r83 w84 h85 le86 st87 q88=> ?_;subst q88;refine zW (v := (.bool _)) Y Y Y<|zaa Y Y ?_;refine zaF (d := 72) rfl (fun g89 => ?_) (fun g89 => ?_)
    ·refine M Y Y Y<|E Y zo Y zq Y Y<|M Y Y Y<|U (j := 8) st87.sub (hc11.up (l47.t le86)) Y Y Y zF Y<|M Y Y Y<|zdB Y Y Y<|zW (v := (.bool _)) Y Y Y<|zJ Y Y<|Z<|zx<|zK<|zd<|zc zcv ?_;refine ⟨h85, _, rfl, st87.done, ?_⟩;refine zy ?_;simp_all [zan]
    refine zS 3 Y<|zX (v := (.bool _)) Y Y Y<|zJ Y Y<|Z<|zx<|zK<|zd<|zc zcv ?_;refine ⟨h85, _, rfl, st87.done, ?_⟩;refine zy ?_;simp_all [zan]
   refine zS 3 Y<|zX (v := (.bool _)) Y Y Y<|zaa Y Y<|zS 3 Y<|zX (v := (.bool _)) Y Y Y<|zJ Y Y<|Z<|zx<|zK<|zd<|zc zcv ?_;refine ⟨h42, _, rfl, st46.done, ?_⟩;refine zy ?_;simp_all [zan]
  refine zS 1 Y<|zX (v := (.bool _)) Y Y Y<|zaa Y Y<|zS 3 Y<|zX (v := (.bool _)) Y Y Y<|zaa Y Y<|zS 3 Y<|zX (v := (.bool _)) Y Y Y<|zJ Y Y<|Z<|zx<|zK<|zd<|zc zcv ?_;refine ⟨h42, _, rfl, st46.done, ?_⟩;refine zy ?_;simp_all [zan]
 refine zf<|zdB Y Y Y<|zJ Y Y<|Z ?_;refine zG rfl (fun c90 => ?_) (fun c90 => ?_)
 ·refine zf<|E Y zo Y zao Y Y<|U (j := 2) st46.sub (hc11.up l47) Y Y Y zaC Y<|v_seql Y Y Y<|zaa Y Y ?_;refine zal (d := 82) rfl (fun g91 => ?_) (fun g91 => ?_)
  ·refine M Y Y Y<|E Y zo Y zO Y Y<|M Y Y Y<|zZ (j := 3) st46.sub (hc11.up l47) (us := [.int .i64 (d.at_.chapter), .int .i64 (d.at_.line), .int .i64 (d.at_.word)]) Y Y zaD zO Y Y Y<|M Y Y Y<|zw st46.sub (hc38.up le43) Y zaD zO Y Y<|M Y Y Y<|zj Y Y (zgs Y Y zfg (Tryz.eq_Place d.at_ zdN))<|zW (v := (.bool _)) Y Y Y<|zaa Y Y ?_;refine zal (d := 88) rfl (fun g92 => ?_) (fun g92 => ?_)
   ·refine M Y Y Y<|E Y zo Y zad Y Y<|M Y Y Y<|zZ (j := 6) st46.sub (hc11.up l47) (us := [zN (d.to.stem), .int .u8 (d.to.mark)]) Y Y zbr zad Y Y Y<|M Y Y Y<|zw st46.sub hc45 Y zbr zad Y Y<|M Y Y Y<|zj Y Y (zgs Y Y zff (Tryz.eq_Head d.to zdG))<|zW (v := (.bool _)) Y Y Y<|zaa Y Y ?_;refine zal (d := 94) rfl (fun g93 => ?_) (fun g93 => ?_)
    ·refine M Y Y Y<|E Y zo Y zq Y Y<|M Y Y Y<|U (j := 8) st46.sub (hc11.up l47) Y Y Y zF Y<|M Y Y Y<|E Y zo Y zq Y Y<|M Y Y Y<|U (j := 0) st46.sub (hc11.up l47) Y Y Y zF Y<|M Y Y Y<|zjf Y Y zaY Y<|M Y Y Y<|zh st46 Y Y Y Tryz.call127 Y (zdR st46.sub _ _ _)<|fun r94 w95 h96 le97 st98 q99=> ?_;subst q99;refine zW (v := (.bool _)) Y Y Y<|zJ Y Y<|Z<|zx<|zK<|zd<|zc zcv ?_;refine ⟨h96, _, rfl, st98.done, ?_⟩;refine zy ?_;simp_all [zan]
    refine zS 6 Y<|zX (v := (.bool _)) Y Y Y<|zJ Y Y<|Z<|zx<|zK<|zd<|zc zcv ?_;refine ⟨h42, _, rfl, st46.done, ?_⟩;refine zy ?_;simp_all [zan]
   refine zS 4 Y<|zX (v := (.bool _)) Y Y Y<|zaa Y Y<|zS 6 Y<|zX (v := (.bool _)) Y Y Y<|zJ Y Y<|Z<|zx<|zK<|zd<|zc zcv ?_;refine ⟨h42, _, rfl, st46.done, ?_⟩;refine zy ?_;simp_all [zan]
  refine zS 4 Y<|zX (v := (.bool _)) Y Y Y<|zaa Y Y<|zS 4 Y<|zX (v := (.bool _)) Y Y Y<|zaa Y Y<|zS 6 Y<|zX (v := (.bool _)) Y Y Y<|zJ Y Y<|Z<|zx<|zK<|zd<|zc zcv ?_;refine ⟨h42, _, rfl, st46.done, ?_⟩;refine zy ?_;simp_all [zan]
 refine zz<|zQ<|O<|zf<|zJ Y Y<|Z<|zx<|zc zcv ?_;refine ⟨h42, _, rfl, st46.done, ?_⟩;refine zy ?_;simp_all [zan]
theorem zhl {h : Heap} {w : World} (hs : Sub h w) {t : Text} {t_v0 : Value} (t_f0 : Sl LChapter h t_v0 t.chapters) {x : Lexicon} {x_v0 : Value} (x_f0 : Sl LRule h x_v0 x.rules) {x_v1 : Value} (x_f1 : Sl LDecision h x_v1 x.decisions) : Calls Tryz.prog 38 #[.agg #[t_v0], .agg #[x_v0, x_v1]] w (Rets h w (fun _ _ res_ => res_ = .bool (zcu t x))) := by
 refine zP (n := 65) Tryz.func38 Y Y Y<|have st0:=zbn hs;have t_f0_b:=t_f0.le;have x_f0_b:=x_f0.le;have x_f1_b:=x_f1.le;zf<|zC st0 (cs := [t_v0]) Y Y Y<|fun b1 w2 h3 le4 hc5 st6=>zC st6 (cs := [x_v0, x_v1]) Y Y Y<|fun b7 w8 h9 le10 hc11 st12=>zJ Y Y<|Z<|zl<|zf<|E Y zak Y zcz Y Y<|U (j := 0) st12.sub hc11 Y Y Y zdj Y<|have l13:=le4.t le10;zaN (x_f0.up l13) Y zbf Y<|zdO Y Y Y<|zaa Y Y ?_;refine zal (d := 12) rfl (fun g14 => ?_) (fun g14 => ?_)
 ·refine zS 4 Y<|zW (v := (.bool _)) Y Y Y<|Z ?_;refine zaj rfl (fun c15 => ?_) (fun c15 => ?_)
  ·refine zf<|zJ Y Y<|Z<|zx<|zd<|zc zgK ?_;refine ⟨h9, _, rfl, st12.done, ?_⟩;refine zy ?_;have q := g14;simp [zcu]
   intros
   omega
  cases c15
 refine M Y Y Y<|E Y zak Y zbS Y Y<|M Y Y Y<|U (j := 1) st12.sub hc11 Y Y Y zcA Y<|M Y Y Y<|zaN (x_f1.up l13) Y zaI Y<|M Y Y Y<|zdO Y Y Y<|zX (v := (.bool _)) Y Y Y<|Z ?_;refine zG rfl (fun c16 => ?_) (fun c16 => ?_)
 ·refine zf<|zJ Y Y<|Z<|zx<|zd<|zc zgK ?_;refine ⟨h9, _, rfl, st12.done, ?_⟩;refine zy ?_;have q := c16;simp [zcu]
  intros
  omega
 refine zz<|O<|zl<|zf<|zt Y Y<|Z<|zH ?_;refine zay ([4, 5] ++ zbX 18 14) (G := Nat × Heap) (fun ⟨i, h17⟩ => [(5, .int .i64 (i : Int))]) (fun ⟨i, h17⟩ w' => Le h9 h17 ∧ St h w h17 w' [] ∧ (i ≤ x.rules.length) ∧ ((x.rules.take i).all zgm = true)) (fun ⟨i, h17⟩ => x.rules.length - i) ⟨0, h9⟩ ⟨rfl, trivial⟩ ⟨Le.refl _, st12, zba, zba⟩ ?_;rintro ⟨i, h17⟩ _ w20 ⟨le18, st19, hi, hR⟩;refine zl<|zf<|zi Y Y<|E Y zak Y zcz Y Y<|U (j := 0) st19.sub (hc11.up le18) Y Y Y zdj Y<|have l21:=l13.t le18;zaN (x_f0.up l21) Y zbf Y<|zaZ Y Y Y<|Z ?_;refine zG rfl (fun c22 => ?_) (fun c22 => ?_)
 ·refine zz<|O<|zl<|zH<|zf<|E Y zak Y zcz Y Y<|U (j := 0) st19.sub (hc11.up le18) Y Y Y zdj Y<|zi Y Y ?_;obtain ⟨r, hr⟩ : ∃ y_, (x.rules)[i]? = some y_ := zbE zr;obtain ⟨b23, o24, _, he26, hc25, hr_r⟩ := Sl.elem (x_f0.up l21) hr;obtain ⟨rfl, ls27, ls28⟩ := hr_r;simp only [big] at ls27;simp only [big] at ls28;refine zU he26 Y Y (hk := Y) (hu := zbf) (hz := zcR) Y<|zw st19.sub hc25 Y Tryz.isAgg122 zcR Y Y<|zh st19 Y Y Y Tryz.call87 Y (c_postilref04_Rule st19.sub (r := r) zbi zbi)<|fun r29 w30 h31 le32 st33 q34=> ?_;subst q34;refine zbA Y Y<|Z ?_;refine zaj rfl (fun c35 => ?_) (fun c35 => ?_)
  ·refine zf<|zJ Y Y<|Z<|zx<|zK<|zd<|zd<|zK<|zd<|zc zgK ?_;refine ⟨h31, _, rfl, st33.done, ?_⟩;refine zy ?_;have q := zcT (p := zgm) hr (by simpa using c35);simp [zcu, q]
  refine zz<|zQ<|O<|zn<|zi Y Y<|zaQ Y Y zaY Y<|zt Y Y<|Z ?_;refine ⟨⟨i + 1, h31⟩, ⟨rfl, trivial⟩, ?_, ⟨(le18.t le32), st33, ?_, ?_⟩, ?_⟩
  ·exact zax
  ·first | omega | (simp; omega)
  ·exact zcD hR hr (by simpa using c35)
  show x.rules.length - ((i + 1)) < x.rules.length - i;omega
 refine zaJ<|zm<|zm<|zap<|O<|zl<|zf<|zt Y Y<|Z<|zH ?_;refine zay ([4, 6, 7] ++ zbX 32 33) (G := Nat × Heap) (fun ⟨i, h36⟩ => [(6, .int .i64 (i : Int))]) (fun ⟨i, h36⟩ w' => Le h17 h36 ∧ St h w h36 w' [] ∧ (i ≤ x.decisions.length) ∧ ((x.decisions.take i).all (zan t) = true) ∧ (((x.decisions.take i).map (·.number)).Nodup)) (fun ⟨i, h36⟩ => x.decisions.length - i) ⟨0, h17⟩ ⟨rfl, trivial⟩ ⟨Le.refl _, st19, zba, zba, zba⟩ ?_;rintro ⟨i, h36⟩ _ w39 ⟨le37, st38, hi, hD, hN⟩;refine zl<|zf<|zi Y Y<|E Y zak Y zbS Y Y<|U (j := 1) st38.sub (hc11.up (le18.t le37)) Y Y Y zcA Y<|have l40:=l21.t le37;zaN (x_f1.up l40) Y zaI Y<|zaZ Y Y Y<|Z ?_;refine zG rfl (fun c41 => ?_) (fun c41 => ?_)
 ·refine zz<|O<|zl<|zH<|zl<|zl<|zbW Tryz.mixed za (Cls h36 _) (Cls.drew st38)<|zB Y Y (fun _ hC => (zau hC.sub (hc5.up ((le10.t le18).t le37)) Y zbb zai Y))<|zab Y zak Y zbS Y Y<|zB Y Y (fun _ hC => (zg (j := 1) hC.sub (hc11.up (le18.t le37)) Y Y Y zcA))<|zdl Y Y ?_;obtain ⟨d, hd⟩ : ∃ y_, (x.decisions)[i]? = some y_ := zbE zr;obtain ⟨b42, o43, _, he45, hc44, hr_d⟩ := Sl.elem (x_f1.up l40) hd;obtain ⟨rfl, lu46, ls47, ls48, lu49⟩ := hr_d;simp only [big] at ls47;simp only [big] at ls48;refine zch he45 Y Y (hk := Y) (hu := zaI) (hz := zY) Y<|zB Y Y (fun _ hC => (zau hC.sub hc44 Y zaW zY Y))<|zdf Y Y (fun _ => zaV Y Tryz.call88 Y) (fun _ hC => Rets.quiet hC (zjN hC.sub (t := t) (t_f0.up l40) (d := d) zeb zbi zbi zeb))<|u_not Y Y<|zbF ?_;rintro w50 ⟨h51, s52⟩;have st53 := st38.call0 s52;refine O ?_;refine zaj rfl (fun c54 => ?_) (fun c54 => ?_)
  ·refine zf<|zJ Y Y<|Z<|zx<|zd<|zK<|zd<|zd<|zK<|zd<|zc zgK ?_;refine ⟨h51, _, rfl, st53.done, ?_⟩;refine zy ?_;have q := zcT (p := zan t) hd (by simpa using c54);simp [zcu, q]
  refine zz<|O<|zf<|zt Y Y<|Z<|zH ?_;refine zay ([4, 7] ++ zbX 47 18) (G := Nat × Heap) (fun ⟨k, h55⟩ => [(7, .int .i64 (k : Int))]) (fun ⟨k, h55⟩ w' => Le h51 h55 ∧ St h w h55 w' [] ∧ (k ≤ i) ∧ (∀ j c2, j < k → x.decisions[j]? = some c2 → c2.number ≠ d.number)) (fun ⟨k, h55⟩ => i - k) ⟨0, h51⟩ ⟨rfl, trivial⟩ ⟨Le.refl _, st53, zba, (by intro j _ hj; omega)⟩ ?_;rintro ⟨k, h55⟩ _ w58 ⟨le56, st57, hk, hq⟩;refine zl<|zf<|zi Y Y<|zi Y Y<|zaZ Y Y Y<|Z ?_;refine zG rfl (fun c59 => ?_) (fun c59 => ?_)
  ·refine zz<|O<|zl<|zH<|zl<|zbW Tryz.mixed za (Cls h55 _) (Cls.drew st57)<|zab Y zak Y zbS Y Y<|have l60:=((le18.t le37).trans s52.le).t le56;zB Y Y (fun _ hC => (zg (j := 1) hC.sub (hc11.up l60) Y Y Y zcA))<|zdl Y Y ?_;obtain ⟨e, he⟩ : ∃ y_, (x.decisions)[k]? = some y_ := zbE zr;have l65 := (l40.trans s52.le).t le56;obtain ⟨b61, o62, _, he64, hc63, hr_e⟩ := Sl.elem (x_f1.up l65) he;obtain ⟨rfl, lu66, ls67, ls68, lu69⟩ := hr_e;simp only [big] at ls67;simp only [big] at ls68;refine zch he64 Y Y (hk := Y) (hu := zaI) (hz := zY) Y<|zab Y zo Y zq Y Y<|zB Y Y (fun _ hC => (zg (j := 0) hC.sub hc63 Y Y Y zF))<|zab Y zak Y zbS Y Y<|zB Y Y (fun _ hC => (zg (j := 1) hC.sub (hc11.up l60) Y Y Y zcA))<|zdl Y Y<|zch he45 Y Y (hk := Y) (hu := zaI) (hz := zY) Y<|zab Y zo Y zq Y Y<|zB Y Y (fun _ hC => (zg (j := 0) hC.sub (hc44.up (s52.le.t le56)) Y Y Y zF))<|u_eql Y Y Y<|zbF ?_;rintro w70 ⟨h71, s72⟩;have st73 := st57.call0 s72;refine O ?_;refine zG rfl (fun c74 => ?_) (fun c74 => ?_)
   ·refine zf<|zJ Y Y<|Z<|zx<|zK<|zd<|zd<|zK<|zK<|zd<|zd<|zK<|zd<|zc zgK ?_;refine ⟨h71, _, rfl, st73.done, ?_⟩;refine zy ?_;have q := zjj (f := (·.number)) he hd zr (by assumption);simp [zcu, q]
   refine zz<|zQ<|O<|zn<|zi Y Y<|zaQ Y Y zaY Y<|zt Y Y<|Z ?_;refine ⟨⟨k + 1, h71⟩, ⟨rfl, trivial⟩, ?_, ⟨(le56.trans s72.le), st73, ?_, ?_⟩, ?_⟩
   ·exact zax
   ·first | omega | (simp; omega)
   ·intro j c2 h1 h2
    rcases Nat.lt_or_ge j k with h3 | h3
    ·exact hq j c2 h3 h2
    ·obtain rfl : j = k := by omega
     rw [h2] at he; cases he; assumption
   show i - ((k + 1)) < i - k;omega
  refine zaJ<|zm<|zm<|zap<|zQ<|O<|zn<|zi Y Y<|zaQ Y Y zaY Y<|zt Y Y<|Z ?_;have HD : zan t d = true := by simpa using c54
  refine ⟨⟨i + 1, h55⟩, ⟨rfl, trivial⟩, ?_, ⟨((le37.trans s52.le).t le56), st57, ?_, ?_, ?_⟩, ?_⟩
  ·exact zax
  ·first | omega | (simp; omega)
  ·exact zcD hD hd HD
  ·exact nodup_take_succ hN hd zr (fun j c2 h1 h2 => hq j c2 zr h2)
  show x.decisions.length - ((i + 1)) < x.decisions.length - i;omega
 refine zaJ<|zm<|zm<|zap<|O<|zf<|zJ Y Y<|Z<|zx<|zc zgK ?_;refine ⟨h36, _, rfl, st38.done, ?_⟩;refine zy ?_;have q1 := zdg hR zr;have q2 := zdg hD zr;have q3 : x.decisions.take i = x.decisions := List.take_of_length_le zr;rw [q3] at hN;simp [zcu, q1, q2, hN];omega
theorem c_postilref04_Check {h : Heap} {w : World} (hs : Sub h w) {t : Text} {t_v0 : Value} (t_f0 : Sl LChapter h t_v0 t.chapters) {x : Lexicon} {x_v0 : Value} (x_f0 : Sl LRule h x_v0 x.rules) {x_v1 : Value} (x_f1 : Sl LDecision h x_v1 x.decisions) : Calls Tryz.prog 119 #[.agg #[t_v0], .agg #[x_v0, x_v1]] w (Rets h w (fun _ _ res_ => res_ = .int .i64 (zaG t x))) := by
 refine zP (n := 15) Tryz.func119 Y Y Y<|have st0:=zbn hs;have t_f0_b:=t_f0.le;have x_f0_b:=x_f0.le;have x_f1_b:=x_f1.le;zf<|zC st0 (cs := [t_v0]) Y Y Y<|fun b1 w2 h3 le4 hc5 st6=>zC st6 (cs := [x_v0, x_v1]) Y Y Y<|fun b7 w8 h9 le10 hc11 st12=>zt Y Y<|Z<|zl<|zf<|zw st12.sub (hc5.up le10) Y zbb zai Y Y<|have l13:=le4.t le10;zh st12 Y Y Y Tryz.call163 Y (c_postilref01_Check st12.sub (t := t) (t_f0.up l13))<|fun r14 w15 h16 le17 st18 q19=> ?_;subst q19;refine zt Y Y<|Z<|zf<|zi Y Y<|zcK Y Y Y<|Z ?_;refine zG rfl (fun c20 => ?_) (fun c20 => ?_)
 ·refine zf<|zi Y Y<|zt Y Y<|Z<|zx<|zd<|zc Tryz.results119 ?_;refine ⟨h16, _, rfl, st18.done, ?_⟩;refine zag ?_;simp_all [zaG]
 refine zz<|O<|zl<|zf<|zw st18.sub (hc5.up (le10.t le17)) Y zbb zai Y Y<|zw st18.sub (hc11.up le17) Y zbh zam Y Y<|have l21:=l13.t le17;zh st18 Y Y Y Tryz.call38 Y (zhl st18.sub (t := t) (t_f0.up l21) (x := x) (x_f0.up l21) (x_f1.up l21))<|fun r22 w23 h24 le25 st26 q27=> ?_;subst q27;refine zbA Y Y<|Z ?_;refine zaj rfl (fun c28 => ?_) (fun c28 => ?_)
 ·refine zf<|zt Y Y<|Z<|zx<|zd<|zc Tryz.results119 ?_;refine ⟨h24, _, rfl, st26.done, ?_⟩;refine zag ?_;simp_all [zaG]
 refine zz<|O<|zf<|zt Y Y<|Z<|zx<|zc Tryz.results119 ?_;refine ⟨h24, _, rfl, st26.done, ?_⟩;refine zag ?_;simp_all [zaG]
end Go.Pk

namespace Go.Pk
open Go Go.RowKit Go.Proofs
end Go.Pk

namespace Go.Pk
open Go Go.RowKit Go.Proofs
theorem zhz {xs : List Int} {v : Value} {g : FuncId} {caps : List Value} (S : Nat → Heap → World → Prop) (p : Nat → Bool)
  (hS : ∀ k h w, S k h w → Sub h w ∧ Sl LInt h v xs)
  (hf : ∀ k x h w vs, S k h w → xs[k]? = some x → LInt.R h vs x → ∀ u, vs = [u] → Calls Tryz.prog g (u :: caps).toArray w (fun e w' => ∃ h', e = .returned (.bool (p k)) ∧ S (k + 1) h' w'))
  (hg : ∀ a w, (callFunc g a).run Tryz.prog w = .ok (.enter g a) w) {h : Heap} {w : World} (h0 : S 0 h w) :
  Calls Tryz.prog 136 #[v, .func (.func g) #[] caps.toArray] w (fun e w' => ∃ h' k, e = .returned (.int .i64 (if k < xs.length then (k : Int) else -1)) ∧ k ≤ xs.length ∧ (∀ j, j < k → p j = false) ∧ (k < xs.length → p k = true) ∧ S (if k < xs.length then k + 1 else k) h' w') := by
 refine zP (n := 19) Tryz.func136 Y Y Y<|have hb:=(hS 0 h w h0).2.le;zf<|zt Y Y<|Z<|zl<|zf<|zT (v := v) Y Y<|zaN (hS 0 h w h0).2 Y zk Y<|zi Y Y<|Z<|zH ?_;refine zay ([4, 5] ++ zbX 8 11) (G := Nat × Heap) (fun ⟨k, _⟩ => [(8, .int .i64 (k : Int))]) (fun ⟨k, h'⟩ w' => S k h' w' ∧ k ≤ xs.length ∧ ∀ j, j < k → p j = false) (fun ⟨k, _⟩ => xs.length - k) ⟨0, h⟩ ⟨rfl, trivial⟩ ⟨h0, by omega, by intros; omega⟩ ?_;rintro ⟨k, h1⟩ _ w1 ⟨hS1, hk, hp⟩;obtain ⟨hsub, hsl⟩ := hS k h1 w1 hS1;refine zf<|zaZ Y Y Y<|Z<|zl ?_;refine zaj rfl (fun c1 => ?_) (fun c1 => ?_)
 ·replace c1 := zhe c1;refine zz<|O<|zl<|zH<|zf<|zi Y Y<|zt Y Y<|Z<|zf<|zhg Y Y<|zT (v := v) Y Y<|zi Y Y ?_;have hy : ∃ y, xs[k]? = some y := ⟨_, List.getElem?_eq_getElem zr⟩;obtain ⟨y, hy⟩ := hy;obtain ⟨b, o, vs, he, hc, hr⟩ := Sl.elem hsl hy;refine zU he Y Y (hk := Y) (hu := zk) (hz := zq) Y ?_;obtain ⟨u, rfl⟩ : ∃ u, vs = [u] := by
   have q := LInt.len hr
   match vs, q with
   | [u], _ => exact ⟨u, rfl⟩
  refine U (j := 0) hsub hc Y Y Y zF Y ?_;refine zaw rfl rfl (zbL (fs := []) (cs := caps) rfl rfl hg rfl) ((hf k y h1 w1 _ hS1 hy hr _ rfl).mono ?_);rintro e w2 ⟨h2, rfl, hS2⟩;refine ⟨_, rfl, ?_⟩;refine Z ?_;refine zaj rfl (fun c2 => ?_) (fun c2 => ?_)
  ·refine zl ?_;refine zn<|zi Y Y<|zt Y Y<|Z<|zx ?_
   repeat (first | refine zK ?_ | refine zd ?_)
   refine zc Tryz.results136 ?_;have hlt : k < xs.length := by omega
   exact ⟨h2, k, by rw [if_pos hlt]; rfl, hk, hp, fun _ => c2, by rw [if_pos hlt]; exact hS2⟩
  ·refine zz ?_;refine zQ<|O<|zn ?_;refine zj rfl rfl (ziO rfl rfl zr) ?_;refine zi Y Y<|Z ?_;refine ⟨⟨k + 1, h2⟩, ⟨rfl, trivial⟩, ?_, ⟨hS2, by omega, ?_⟩, ?_⟩
   ·exact zax
   ·intro j hj
    rcases Nat.lt_or_ge j k with h3 | h3
    ·exact hp j h3
    ·obtain rfl : j = k := by omega
     exact c2
   ·show xs.length - (k + 1) < xs.length - k;omega
 ·replace c1 := t_of c1;refine zaJ<|zm<|zm<|zap<|O<|zf<|zt Y Y<|Z<|zx<|zc Tryz.results136 ?_;have hlt : ¬ k < xs.length := by omega
  exact ⟨h1, k, by rw [if_neg hlt]; rfl, hk, hp, fun q => absurd q hlt, by rw [if_neg hlt]; exact hS1⟩

theorem zgM {xs : List Int} {v : Value} {g : FuncId} {caps : List Value} (S : Nat → Heap → World → Prop) (p : Nat → Bool)
  (hS : ∀ k h w, S k h w → Sub h w ∧ Sl LInt h v xs)
  (hf : ∀ k x h w vs, S k h w → xs[k]? = some x → LInt.R h vs x → ∀ u, vs = [u] → Calls Tryz.prog g (u :: caps).toArray w (fun e w' => ∃ h', e = .returned (.bool (p k)) ∧ S (k + 1) h' w'))
  (hg : ∀ a w, (callFunc g a).run Tryz.prog w = .ok (.enter g a) w) {h : Heap} {w : World} (h0 : S 0 h w) :
  Calls Tryz.prog 97 #[v, .func (.func g) #[] caps.toArray] w (fun e w' => ∃ h' k, e = .returned (.bool (decide (k < xs.length))) ∧ k ≤ xs.length ∧ (∀ j, j < k → p j = false) ∧ (k < xs.length → p k = true) ∧ S (if k < xs.length then k + 1 else k) h' w') := by
 refine zP (n := 9) Tryz.func97 Y Y Y<|zf<|zJ Y Y<|Z<|zf<|zT (v := v) Y Y<|zhg Y Y ?_;refine zaw rfl rfl (zaV rfl Tryz.call136 rfl) ((zhz S p hS hf hg h0).mono ?_);rintro e w2 ⟨h2, k, rfl, q1, q2, q3, q4⟩;refine ⟨_, rfl, ?_⟩;refine ziL Y Y Y<|zJ Y Y<|Z<|zx<|zc Tryz.results97 ?_;refine ⟨h2, k, congrArg Ending.returned (zy ?_), q1, q2, q3, q4⟩
 by_cases hlt : k < xs.length
 ·simp [hlt]
 ·simp [hlt]
theorem zdJ {xs : List Int} {v : Value} {g : FuncId} {caps : List Value} {h : Heap} {w : World} (hs : Sub h w) (hx : Sl LInt h v xs) (q : Int → Bool)
  (hg : ∀ a w, (callFunc g a).run Tryz.prog w = .ok (.enter g a) w)
  (hf : ∀ x h' w' vs, Le h h' → Sub h' w' → x ∈ xs → LInt.R h' vs x → ∀ u, vs = [u] → Calls Tryz.prog g (u :: caps).toArray w' (Rets h' w' fun _ _ r => r = .bool (q x))) :
  Calls Tryz.prog 97 #[v, .func (.func g) #[] caps.toArray] w (Rets h w fun _ _ r => r = .bool (xs.any q)) := by
 refine (zgM (fun k h' w' => St h w h' w' [] ∧ k ≤ xs.length) (fun k => ((xs[k]?).map q).getD false) (fun k h' w' hk => ⟨hk.1.sub, hx.up hk.1.le⟩) ?_ hg ⟨St.start hs, Nat.zero_le _⟩).mono ?_
 ·rintro k x h' w' vs ⟨st, _⟩ hk hr u hu;refine (hf x h' w' vs st.le st.sub (List.mem_of_getElem? hk) hr u hu).mono ?_;rintro e w'' ⟨h'', r, rfl, s, rfl⟩;obtain ⟨hlt, _⟩ := List.getElem?_eq_some_iff.1 hk;exact ⟨h'', by simp [hk], st.call0 s, hlt⟩
 ·rintro e w' ⟨h', k, rfl, q1, q2, q3, q4⟩;refine ⟨h', _, rfl, q4.1, zy ?_⟩
  by_cases hlt : k < xs.length
  ·have h3 := q3 hlt;rw [List.getElem?_eq_getElem hlt] at h3;simp only [Option.map_some, Option.getD_some] at h3;have : xs.any q = true := List.any_eq_true.2 ⟨_, List.getElem_mem hlt, h3⟩;simp [hlt, this]
  ·have : xs.any q = false := by
    rw [List.any_eq_false];intro x hx';obtain ⟨j, hj⟩ := List.mem_iff_getElem?.1 hx';obtain ⟨h5, _⟩ := List.getElem?_eq_some_iff.1 hj;have := q2 j zr;simpa [hj] using this
   simp [hlt, this]

theorem zgY {xs : List Int} {v : Value} {g : FuncId} {caps : List Value} (S : Nat → Heap → World → Prop) (p : Nat → Bool)
  (hS : ∀ k h w, S k h w → Sub h w ∧ Sl LU8 h v xs)
  (hf : ∀ k x h w vs, S k h w → xs[k]? = some x → LU8.R h vs x → ∀ u, vs = [u] → Calls Tryz.prog g (u :: caps).toArray w (fun e w' => ∃ h', e = .returned (.bool (p k)) ∧ S (k + 1) h' w'))
  (hg : ∀ a w, (callFunc g a).run Tryz.prog w = .ok (.enter g a) w) {h : Heap} {w : World} (h0 : S 0 h w) :
  Calls Tryz.prog 160 #[v, .func (.func g) #[] caps.toArray] w (fun e w' => ∃ h' k, e = .returned (.int .i64 (if k < xs.length then (k : Int) else -1)) ∧ k ≤ xs.length ∧ (∀ j, j < k → p j = false) ∧ (k < xs.length → p k = true) ∧ S (if k < xs.length then k + 1 else k) h' w') := by
 refine zP (n := 19) Tryz.func160 Y Y Y<|have hb:=(hS 0 h w h0).2.le;zf<|zt Y Y<|Z<|zl<|zf<|zT (v := v) Y Y<|zaN (hS 0 h w h0).2 Y Tryz.underlying193 Y<|zi Y Y<|Z<|zH ?_;refine zay ([4, 5] ++ zbX 8 11) (G := Nat × Heap) (fun ⟨k, _⟩ => [(8, .int .i64 (k : Int))]) (fun ⟨k, h'⟩ w' => S k h' w' ∧ k ≤ xs.length ∧ ∀ j, j < k → p j = false) (fun ⟨k, _⟩ => xs.length - k) ⟨0, h⟩ ⟨rfl, trivial⟩ ⟨h0, by omega, by intros; omega⟩ ?_;rintro ⟨k, h1⟩ _ w1 ⟨hS1, hk, hp⟩;obtain ⟨hsub, hsl⟩ := hS k h1 w1 hS1;refine zf<|zaZ Y Y Y<|Z<|zl ?_;refine zaj rfl (fun c1 => ?_) (fun c1 => ?_)
 ·replace c1 := zhe c1;refine zz<|O<|zl<|zH<|zf<|zi Y Y<|zt Y Y<|Z<|zf<|zhg Y Y<|zT (v := v) Y Y<|zi Y Y ?_;have hy : ∃ y, xs[k]? = some y := ⟨_, List.getElem?_eq_getElem zr⟩;obtain ⟨y, hy⟩ := hy;obtain ⟨b, o, vs, he, hc, hr⟩ := Sl.elem hsl hy;refine zU he Y Y (hk := Y) (hu := Tryz.underlying193) (hz := zbx) Y ?_;obtain ⟨u, rfl⟩ : ∃ u, vs = [u] := by
   have q := LU8.len hr
   match vs, q with
   | [u], _ => exact ⟨u, rfl⟩
  refine U (j := 0) hsub hc Y Y Y zcb Y ?_;refine zaw rfl rfl (zbL (fs := []) (cs := caps) rfl rfl hg rfl) ((hf k y h1 w1 _ hS1 hy hr _ rfl).mono ?_);rintro e w2 ⟨h2, rfl, hS2⟩;refine ⟨_, rfl, ?_⟩;refine Z ?_;refine zaj rfl (fun c2 => ?_) (fun c2 => ?_)
  ·refine zl ?_;refine zn<|zi Y Y<|zt Y Y<|Z<|zx ?_
   repeat (first | refine zK ?_ | refine zd ?_)
   refine zc Tryz.results160 ?_;have hlt : k < xs.length := by omega
   exact ⟨h2, k, by rw [if_pos hlt]; rfl, hk, hp, fun _ => c2, by rw [if_pos hlt]; exact hS2⟩
  ·refine zz ?_;refine zQ<|O<|zn ?_;refine zj rfl rfl (ziO rfl rfl zr) ?_;refine zi Y Y<|Z ?_;refine ⟨⟨k + 1, h2⟩, ⟨rfl, trivial⟩, ?_, ⟨hS2, by omega, ?_⟩, ?_⟩
   ·exact zax
   ·intro j hj
    rcases Nat.lt_or_ge j k with h3 | h3
    ·exact hp j h3
    ·obtain rfl : j = k := by omega
     exact c2
   ·show xs.length - (k + 1) < xs.length - k;omega
 ·replace c1 := t_of c1;refine zaJ<|zm<|zm<|zap<|O<|zf<|zt Y Y<|Z<|zx<|zc Tryz.results160 ?_;have hlt : ¬ k < xs.length := by omega
  exact ⟨h1, k, by rw [if_neg hlt]; rfl, hk, hp, fun q => absurd q hlt, by rw [if_neg hlt]; exact hS1⟩

theorem zgo {xs : List Int} {v : Value} {g : FuncId} {caps : List Value} (S : Nat → Heap → World → Prop) (p : Nat → Bool)
  (hS : ∀ k h w, S k h w → Sub h w ∧ Sl LU8 h v xs)
  (hf : ∀ k x h w vs, S k h w → xs[k]? = some x → LU8.R h vs x → ∀ u, vs = [u] → Calls Tryz.prog g (u :: caps).toArray w (fun e w' => ∃ h', e = .returned (.bool (p k)) ∧ S (k + 1) h' w'))
  (hg : ∀ a w, (callFunc g a).run Tryz.prog w = .ok (.enter g a) w) {h : Heap} {w : World} (h0 : S 0 h w) :
  Calls Tryz.prog 114 #[v, .func (.func g) #[] caps.toArray] w (fun e w' => ∃ h' k, e = .returned (.bool (decide (k < xs.length))) ∧ k ≤ xs.length ∧ (∀ j, j < k → p j = false) ∧ (k < xs.length → p k = true) ∧ S (if k < xs.length then k + 1 else k) h' w') := by
 refine zP (n := 9) Tryz.func114 Y Y Y<|zf<|zJ Y Y<|Z<|zf<|zT (v := v) Y Y<|zhg Y Y ?_;refine zaw rfl rfl (zaV rfl Tryz.call160 rfl) ((zgY S p hS hf hg h0).mono ?_);rintro e w2 ⟨h2, k, rfl, q1, q2, q3, q4⟩;refine ⟨_, rfl, ?_⟩;refine ziL Y Y Y<|zJ Y Y<|Z<|zx<|zc Tryz.results114 ?_;refine ⟨h2, k, congrArg Ending.returned (zy ?_), q1, q2, q3, q4⟩
 by_cases hlt : k < xs.length
 ·simp [hlt]
 ·simp [hlt]
theorem zew {xs : List Int} {v : Value} {g : FuncId} {caps : List Value} {h : Heap} {w : World} (hs : Sub h w) (hx : Sl LU8 h v xs) (q : Int → Bool)
  (hg : ∀ a w, (callFunc g a).run Tryz.prog w = .ok (.enter g a) w)
  (hf : ∀ x h' w' vs, Le h h' → Sub h' w' → x ∈ xs → LU8.R h' vs x → ∀ u, vs = [u] → Calls Tryz.prog g (u :: caps).toArray w' (Rets h' w' fun _ _ r => r = .bool (q x))) :
  Calls Tryz.prog 114 #[v, .func (.func g) #[] caps.toArray] w (Rets h w fun _ _ r => r = .bool (xs.any q)) := by
 refine (zgo (fun k h' w' => St h w h' w' [] ∧ k ≤ xs.length) (fun k => ((xs[k]?).map q).getD false) (fun k h' w' hk => ⟨hk.1.sub, hx.up hk.1.le⟩) ?_ hg ⟨St.start hs, Nat.zero_le _⟩).mono ?_
 ·rintro k x h' w' vs ⟨st, _⟩ hk hr u hu;refine (hf x h' w' vs st.le st.sub (List.mem_of_getElem? hk) hr u hu).mono ?_;rintro e w'' ⟨h'', r, rfl, s, rfl⟩;obtain ⟨hlt, _⟩ := List.getElem?_eq_some_iff.1 hk;exact ⟨h'', by simp [hk], st.call0 s, hlt⟩
 ·rintro e w' ⟨h', k, rfl, q1, q2, q3, q4⟩;refine ⟨h', _, rfl, q4.1, zy ?_⟩
  by_cases hlt : k < xs.length
  ·have h3 := q3 hlt;rw [List.getElem?_eq_getElem hlt] at h3;simp only [Option.map_some, Option.getD_some] at h3;have : xs.any q = true := List.any_eq_true.2 ⟨_, List.getElem_mem hlt, h3⟩;simp [hlt, this]
  ·have : xs.any q = false := by
    rw [List.any_eq_false];intro x hx';obtain ⟨j, hj⟩ := List.mem_iff_getElem?.1 hx';obtain ⟨h5, _⟩ := List.getElem?_eq_some_iff.1 hj;have := q2 j zr;simpa [hj] using this
   simp [hlt, this]

theorem zdZ {xs : List Str} {v : Value} {g : FuncId} {caps : List Value} (S : Nat → Heap → World → Prop) (p : Nat → Bool)
  (hS : ∀ k h w, S k h w → Sub h w ∧ Sl LStr h v xs)
  (hf : ∀ k x h w vs, S k h w → xs[k]? = some x → LStr.R h vs x → ∀ u, vs = [u] → Calls Tryz.prog g (u :: caps).toArray w (fun e w' => ∃ h', e = .returned (.bool (p k)) ∧ S (k + 1) h' w'))
  (hg : ∀ a w, (callFunc g a).run Tryz.prog w = .ok (.enter g a) w) {h : Heap} {w : World} (h0 : S 0 h w) :
  Calls Tryz.prog 105 #[v, .func (.func g) #[] caps.toArray] w (fun e w' => ∃ h' k, e = .returned (.int .i64 (if k < xs.length then (k : Int) else -1)) ∧ k ≤ xs.length ∧ (∀ j, j < k → p j = false) ∧ (k < xs.length → p k = true) ∧ S (if k < xs.length then k + 1 else k) h' w') := by
 refine zP (n := 19) Tryz.func105 Y Y Y<|have hb:=(hS 0 h w h0).2.le;zf<|zt Y Y<|Z<|zl<|zf<|zT (v := v) Y Y<|zaN (hS 0 h w h0).2 Y zV Y<|zi Y Y<|Z<|zH ?_;refine zay ([4, 5] ++ zbX 8 11) (G := Nat × Heap) (fun ⟨k, _⟩ => [(8, .int .i64 (k : Int))]) (fun ⟨k, h'⟩ w' => S k h' w' ∧ k ≤ xs.length ∧ ∀ j, j < k → p j = false) (fun ⟨k, _⟩ => xs.length - k) ⟨0, h⟩ ⟨rfl, trivial⟩ ⟨h0, by omega, by intros; omega⟩ ?_;rintro ⟨k, h1⟩ _ w1 ⟨hS1, hk, hp⟩;obtain ⟨hsub, hsl⟩ := hS k h1 w1 hS1;refine zf<|zaZ Y Y Y<|Z<|zl ?_;refine zaj rfl (fun c1 => ?_) (fun c1 => ?_)
 ·replace c1 := zhe c1;refine zz<|O<|zl<|zH<|zf<|zi Y Y<|zt Y Y<|Z<|zf<|zhg Y Y<|zT (v := v) Y Y<|zi Y Y ?_;have hy : ∃ y, xs[k]? = some y := ⟨_, List.getElem?_eq_getElem zr⟩;obtain ⟨y, hy⟩ := hy;obtain ⟨b, o, vs, he, hc, hr⟩ := Sl.elem hsl hy;refine zU he Y Y (hk := Y) (hu := zV) (hz := zao) Y ?_;obtain ⟨u, rfl⟩ : ∃ u, vs = [u] := by
   have q := LStr.len hr
   match vs, q with
   | [u], _ => exact ⟨u, rfl⟩
  refine U (j := 0) hsub hc Y Y Y zaC Y ?_;refine zaw rfl rfl (zbL (fs := []) (cs := caps) rfl rfl hg rfl) ((hf k y h1 w1 _ hS1 hy hr _ rfl).mono ?_);rintro e w2 ⟨h2, rfl, hS2⟩;refine ⟨_, rfl, ?_⟩;refine Z ?_;refine zaj rfl (fun c2 => ?_) (fun c2 => ?_)
  ·refine zl ?_;refine zn<|zi Y Y<|zt Y Y<|Z<|zx ?_
   repeat (first | refine zK ?_ | refine zd ?_)
   refine zc Tryz.results105 ?_;have hlt : k < xs.length := by omega
   exact ⟨h2, k, by rw [if_pos hlt]; rfl, hk, hp, fun _ => c2, by rw [if_pos hlt]; exact hS2⟩
  ·refine zz ?_;refine zQ<|O<|zn ?_;refine zj rfl rfl (ziO rfl rfl zr) ?_;refine zi Y Y<|Z ?_;refine ⟨⟨k + 1, h2⟩, ⟨rfl, trivial⟩, ?_, ⟨hS2, by omega, ?_⟩, ?_⟩
   ·exact zax
   ·intro j hj
    rcases Nat.lt_or_ge j k with h3 | h3
    ·exact hp j h3
    ·obtain rfl : j = k := by omega
     exact c2
   ·show xs.length - (k + 1) < xs.length - k;omega
 ·replace c1 := t_of c1;refine zaJ<|zm<|zm<|zap<|O<|zf<|zt Y Y<|Z<|zx<|zc Tryz.results105 ?_;have hlt : ¬ k < xs.length := by omega
  exact ⟨h1, k, by rw [if_neg hlt]; rfl, hk, hp, fun q => absurd q hlt, by rw [if_neg hlt]; exact hS1⟩

theorem zfu {xs : List Str} {v : Value} {g : FuncId} {caps : List Value} (S : Nat → Heap → World → Prop) (p : Nat → Bool)
  (hS : ∀ k h w, S k h w → Sub h w ∧ Sl LStr h v xs)
  (hf : ∀ k x h w vs, S k h w → xs[k]? = some x → LStr.R h vs x → ∀ u, vs = [u] → Calls Tryz.prog g (u :: caps).toArray w (fun e w' => ∃ h', e = .returned (.bool (p k)) ∧ S (k + 1) h' w'))
  (hg : ∀ a w, (callFunc g a).run Tryz.prog w = .ok (.enter g a) w) {h : Heap} {w : World} (h0 : S 0 h w) :
  Calls Tryz.prog 150 #[v, .func (.func g) #[] caps.toArray] w (fun e w' => ∃ h' k, e = .returned (.bool (decide (k < xs.length))) ∧ k ≤ xs.length ∧ (∀ j, j < k → p j = false) ∧ (k < xs.length → p k = true) ∧ S (if k < xs.length then k + 1 else k) h' w') := by
 refine zP (n := 9) Tryz.func150 Y Y Y<|zf<|zJ Y Y<|Z<|zf<|zT (v := v) Y Y<|zhg Y Y ?_;refine zaw rfl rfl (zaV rfl Tryz.call105 rfl) ((zdZ S p hS hf hg h0).mono ?_);rintro e w2 ⟨h2, k, rfl, q1, q2, q3, q4⟩;refine ⟨_, rfl, ?_⟩;refine ziL Y Y Y<|zJ Y Y<|Z<|zx<|zc Tryz.results150 ?_;refine ⟨h2, k, congrArg Ending.returned (zy ?_), q1, q2, q3, q4⟩
 by_cases hlt : k < xs.length
 ·simp [hlt]
 ·simp [hlt]
theorem zgi {xs : List Str} {v : Value} {g : FuncId} {caps : List Value} {h : Heap} {w : World} (hs : Sub h w) (hx : Sl LStr h v xs) (q : Str → Bool)
  (hg : ∀ a w, (callFunc g a).run Tryz.prog w = .ok (.enter g a) w)
  (hf : ∀ x h' w' vs, Le h h' → Sub h' w' → x ∈ xs → LStr.R h' vs x → ∀ u, vs = [u] → Calls Tryz.prog g (u :: caps).toArray w' (Rets h' w' fun _ _ r => r = .bool (q x))) :
  Calls Tryz.prog 150 #[v, .func (.func g) #[] caps.toArray] w (Rets h w fun _ _ r => r = .bool (xs.any q)) := by
 refine (zfu (fun k h' w' => St h w h' w' [] ∧ k ≤ xs.length) (fun k => ((xs[k]?).map q).getD false) (fun k h' w' hk => ⟨hk.1.sub, hx.up hk.1.le⟩) ?_ hg ⟨St.start hs, Nat.zero_le _⟩).mono ?_
 ·rintro k x h' w' vs ⟨st, _⟩ hk hr u hu;refine (hf x h' w' vs st.le st.sub (List.mem_of_getElem? hk) hr u hu).mono ?_;rintro e w'' ⟨h'', r, rfl, s, rfl⟩;obtain ⟨hlt, _⟩ := List.getElem?_eq_some_iff.1 hk;exact ⟨h'', by simp [hk], st.call0 s, hlt⟩
 ·rintro e w' ⟨h', k, rfl, q1, q2, q3, q4⟩;refine ⟨h', _, rfl, q4.1, zy ?_⟩
  by_cases hlt : k < xs.length
  ·have h3 := q3 hlt;rw [List.getElem?_eq_getElem hlt] at h3;simp only [Option.map_some, Option.getD_some] at h3;have : xs.any q = true := List.any_eq_true.2 ⟨_, List.getElem_mem hlt, h3⟩;simp [hlt, this]
  ·have : xs.any q = false := by
    rw [List.any_eq_false];intro x hx';obtain ⟨j, hj⟩ := List.mem_iff_getElem?.1 hx';obtain ⟨h5, _⟩ := List.getElem?_eq_some_iff.1 hj;have := q2 j zr;simpa [hj] using this
   simp [hlt, this]

theorem zfp {xs : List Rule} {v : Value} {g : FuncId} {caps : List Value} (S : Nat → Heap → World → Prop) (p : Nat → Bool)
  (hS : ∀ k h w, S k h w → Sub h w ∧ Sl LRule h v xs)
  (hf : ∀ k x h w vs, S k h w → xs[k]? = some x → LRule.R h vs x → ∀ u, u = .agg vs.toArray → Calls Tryz.prog g (u :: caps).toArray w (fun e w' => ∃ h', e = .returned (.bool (p k)) ∧ S (k + 1) h' w'))
  (hg : ∀ a w, (callFunc g a).run Tryz.prog w = .ok (.enter g a) w) {h : Heap} {w : World} (h0 : S 0 h w) :
  Calls Tryz.prog 197 #[v, .func (.func g) #[] caps.toArray] w (fun e w' => ∃ h' k, e = .returned (.int .i64 (if k < xs.length then (k : Int) else -1)) ∧ k ≤ xs.length ∧ (∀ j, j < k → p j = false) ∧ (k < xs.length → p k = true) ∧ S (if k < xs.length then k + 1 else k) h' w') := by
 refine zP (n := 19) Tryz.func197 Y Y Y<|have hb:=(hS 0 h w h0).2.le;zf<|zt Y Y<|Z<|zl<|zf<|zT (v := v) Y Y<|zaN (hS 0 h w h0).2 Y zbf Y<|zi Y Y<|Z<|zH ?_;refine zay ([4, 5] ++ zbX 8 11) (G := Nat × Heap) (fun ⟨k, _⟩ => [(8, .int .i64 (k : Int))]) (fun ⟨k, h'⟩ w' => S k h' w' ∧ k ≤ xs.length ∧ ∀ j, j < k → p j = false) (fun ⟨k, _⟩ => xs.length - k) ⟨0, h⟩ ⟨rfl, trivial⟩ ⟨h0, by omega, by intros; omega⟩ ?_;rintro ⟨k, h1⟩ _ w1 ⟨hS1, hk, hp⟩;obtain ⟨hsub, hsl⟩ := hS k h1 w1 hS1;refine zf<|zaZ Y Y Y<|Z<|zl ?_;refine zaj rfl (fun c1 => ?_) (fun c1 => ?_)
 ·replace c1 := zhe c1;refine zz<|O<|zl<|zH<|zf<|zi Y Y<|zt Y Y<|Z<|zf<|zhg Y Y<|zT (v := v) Y Y<|zi Y Y ?_;have hy : ∃ y, xs[k]? = some y := ⟨_, List.getElem?_eq_getElem zr⟩;obtain ⟨y, hy⟩ := hy;obtain ⟨b, o, vs, he, hc, hr⟩ := Sl.elem hsl hy;refine zU he Y Y (hk := Y) (hu := zbf) (hz := zcR) Y<|zw hsub hc Y Tryz.isAgg122 zcR (LRule.len hr) Y ?_;refine zaw rfl rfl (zbL (fs := []) (cs := caps) rfl rfl hg rfl) ((hf k y h1 w1 _ hS1 hy hr _ rfl).mono ?_);rintro e w2 ⟨h2, rfl, hS2⟩;refine ⟨_, rfl, ?_⟩;refine Z ?_;refine zaj rfl (fun c2 => ?_) (fun c2 => ?_)
  ·refine zl ?_;refine zn<|zi Y Y<|zt Y Y<|Z<|zx ?_
   repeat (first | refine zK ?_ | refine zd ?_)
   refine zc Tryz.results197 ?_;have hlt : k < xs.length := by omega
   exact ⟨h2, k, by rw [if_pos hlt]; rfl, hk, hp, fun _ => c2, by rw [if_pos hlt]; exact hS2⟩
  ·refine zz ?_;refine zQ<|O<|zn ?_;refine zj rfl rfl (ziO rfl rfl zr) ?_;refine zi Y Y<|Z ?_;refine ⟨⟨k + 1, h2⟩, ⟨rfl, trivial⟩, ?_, ⟨hS2, by omega, ?_⟩, ?_⟩
   ·exact zax
   ·intro j hj
    rcases Nat.lt_or_ge j k with h3 | h3
    ·exact hp j h3
    ·obtain rfl : j = k := by omega
     exact c2
   ·show xs.length - (k + 1) < xs.length - k;omega
 ·replace c1 := t_of c1;refine zaJ<|zm<|zm<|zap<|O<|zf<|zt Y Y<|Z<|zx<|zc Tryz.results197 ?_;have hlt : ¬ k < xs.length := by omega
  exact ⟨h1, k, by rw [if_neg hlt]; rfl, hk, hp, fun q => absurd q hlt, by rw [if_neg hlt]; exact hS1⟩

theorem zeO {xs : List Rule} {v : Value} {g : FuncId} {caps : List Value} (S : Nat → Heap → World → Prop) (p : Nat → Bool)
  (hS : ∀ k h w, S k h w → Sub h w ∧ Sl LRule h v xs)
  (hf : ∀ k x h w vs, S k h w → xs[k]? = some x → LRule.R h vs x → ∀ u, u = .agg vs.toArray → Calls Tryz.prog g (u :: caps).toArray w (fun e w' => ∃ h', e = .returned (.bool (p k)) ∧ S (k + 1) h' w'))
  (hg : ∀ a w, (callFunc g a).run Tryz.prog w = .ok (.enter g a) w) {h : Heap} {w : World} (h0 : S 0 h w) :
  Calls Tryz.prog 153 #[v, .func (.func g) #[] caps.toArray] w (fun e w' => ∃ h' k, e = .returned (.bool (decide (k < xs.length))) ∧ k ≤ xs.length ∧ (∀ j, j < k → p j = false) ∧ (k < xs.length → p k = true) ∧ S (if k < xs.length then k + 1 else k) h' w') := by
 refine zP (n := 9) Tryz.func153 Y Y Y<|zf<|zJ Y Y<|Z<|zf<|zT (v := v) Y Y<|zhg Y Y ?_;refine zaw rfl rfl (zaV rfl Tryz.call197 rfl) ((zfp S p hS hf hg h0).mono ?_);rintro e w2 ⟨h2, k, rfl, q1, q2, q3, q4⟩;refine ⟨_, rfl, ?_⟩;refine ziL Y Y Y<|zJ Y Y<|Z<|zx<|zc Tryz.results153 ?_;refine ⟨h2, k, congrArg Ending.returned (zy ?_), q1, q2, q3, q4⟩
 by_cases hlt : k < xs.length
 ·simp [hlt]
 ·simp [hlt]
theorem zer {xs : List Decision} {v : Value} {g : FuncId} {caps : List Value} (S : Nat → Heap → World → Prop) (p : Nat → Bool)
  (hS : ∀ k h w, S k h w → Sub h w ∧ Sl LDecision h v xs)
  (hf : ∀ k x h w vs, S k h w → xs[k]? = some x → LDecision.R h vs x → ∀ u, u = .agg vs.toArray → Calls Tryz.prog g (u :: caps).toArray w (fun e w' => ∃ h', e = .returned (.bool (p k)) ∧ S (k + 1) h' w'))
  (hg : ∀ a w, (callFunc g a).run Tryz.prog w = .ok (.enter g a) w) {h : Heap} {w : World} (h0 : S 0 h w) :
  Calls Tryz.prog 199 #[v, .func (.func g) #[] caps.toArray] w (fun e w' => ∃ h' k, e = .returned (.int .i64 (if k < xs.length then (k : Int) else -1)) ∧ k ≤ xs.length ∧ (∀ j, j < k → p j = false) ∧ (k < xs.length → p k = true) ∧ S (if k < xs.length then k + 1 else k) h' w') := by
 refine zP (n := 19) Tryz.func199 Y Y Y<|have hb:=(hS 0 h w h0).2.le;zf<|zt Y Y<|Z<|zl<|zf<|zT (v := v) Y Y<|zaN (hS 0 h w h0).2 Y zaI Y<|zi Y Y<|Z<|zH ?_;refine zay ([4, 5] ++ zbX 8 11) (G := Nat × Heap) (fun ⟨k, _⟩ => [(8, .int .i64 (k : Int))]) (fun ⟨k, h'⟩ w' => S k h' w' ∧ k ≤ xs.length ∧ ∀ j, j < k → p j = false) (fun ⟨k, _⟩ => xs.length - k) ⟨0, h⟩ ⟨rfl, trivial⟩ ⟨h0, by omega, by intros; omega⟩ ?_;rintro ⟨k, h1⟩ _ w1 ⟨hS1, hk, hp⟩;obtain ⟨hsub, hsl⟩ := hS k h1 w1 hS1;refine zf<|zaZ Y Y Y<|Z<|zl ?_;refine zaj rfl (fun c1 => ?_) (fun c1 => ?_)
 ·replace c1 := zhe c1;refine zz<|O<|zl<|zH<|zf<|zi Y Y<|zt Y Y<|Z<|zf<|zhg Y Y<|zT (v := v) Y Y<|zi Y Y ?_;have hy : ∃ y, xs[k]? = some y := ⟨_, List.getElem?_eq_getElem zr⟩;obtain ⟨y, hy⟩ := hy;obtain ⟨b, o, vs, he, hc, hr⟩ := Sl.elem hsl hy;refine zU he Y Y (hk := Y) (hu := zaI) (hz := zY) Y<|zw hsub hc Y zaW zY (LDecision.len hr) Y ?_;refine zaw rfl rfl (zbL (fs := []) (cs := caps) rfl rfl hg rfl) ((hf k y h1 w1 _ hS1 hy hr _ rfl).mono ?_);rintro e w2 ⟨h2, rfl, hS2⟩;refine ⟨_, rfl, ?_⟩;refine Z ?_;refine zaj rfl (fun c2 => ?_) (fun c2 => ?_)
  ·refine zl ?_;refine zn<|zi Y Y<|zt Y Y<|Z<|zx ?_
   repeat (first | refine zK ?_ | refine zd ?_)
   refine zc Tryz.results199 ?_;have hlt : k < xs.length := by omega
   exact ⟨h2, k, by rw [if_pos hlt]; rfl, hk, hp, fun _ => c2, by rw [if_pos hlt]; exact hS2⟩
  ·refine zz ?_;refine zQ<|O<|zn ?_;refine zj rfl rfl (ziO rfl rfl zr) ?_;refine zi Y Y<|Z ?_;refine ⟨⟨k + 1, h2⟩, ⟨rfl, trivial⟩, ?_, ⟨hS2, by omega, ?_⟩, ?_⟩
   ·exact zax
   ·intro j hj
    rcases Nat.lt_or_ge j k with h3 | h3
    ·exact hp j h3
    ·obtain rfl : j = k := by omega
     exact c2
   ·show xs.length - (k + 1) < xs.length - k;omega
 ·replace c1 := t_of c1;refine zaJ<|zm<|zm<|zap<|O<|zf<|zt Y Y<|Z<|zx<|zc Tryz.results199 ?_;have hlt : ¬ k < xs.length := by omega
  exact ⟨h1, k, by rw [if_neg hlt]; rfl, hk, hp, fun q => absurd q hlt, by rw [if_neg hlt]; exact hS1⟩

theorem zej {xs : List Decision} {v : Value} {g : FuncId} {caps : List Value} (S : Nat → Heap → World → Prop) (p : Nat → Bool)
  (hS : ∀ k h w, S k h w → Sub h w ∧ Sl LDecision h v xs)
  (hf : ∀ k x h w vs, S k h w → xs[k]? = some x → LDecision.R h vs x → ∀ u, u = .agg vs.toArray → Calls Tryz.prog g (u :: caps).toArray w (fun e w' => ∃ h', e = .returned (.bool (p k)) ∧ S (k + 1) h' w'))
  (hg : ∀ a w, (callFunc g a).run Tryz.prog w = .ok (.enter g a) w) {h : Heap} {w : World} (h0 : S 0 h w) :
  Calls Tryz.prog 158 #[v, .func (.func g) #[] caps.toArray] w (fun e w' => ∃ h' k, e = .returned (.bool (decide (k < xs.length))) ∧ k ≤ xs.length ∧ (∀ j, j < k → p j = false) ∧ (k < xs.length → p k = true) ∧ S (if k < xs.length then k + 1 else k) h' w') := by
 refine zP (n := 9) Tryz.func158 Y Y Y<|zf<|zJ Y Y<|Z<|zf<|zT (v := v) Y Y<|zhg Y Y ?_;refine zaw rfl rfl (zaV rfl Tryz.call199 rfl) ((zer S p hS hf hg h0).mono ?_);rintro e w2 ⟨h2, k, rfl, q1, q2, q3, q4⟩;refine ⟨_, rfl, ?_⟩;refine ziL Y Y Y<|zJ Y Y<|Z<|zx<|zc Tryz.results158 ?_;refine ⟨h2, k, congrArg Ending.returned (zy ?_), q1, q2, q3, q4⟩
 by_cases hlt : k < xs.length
 ·simp [hlt]
 ·simp [hlt]
theorem zeS {xs : List Voter} {v : Value} {g : FuncId} {caps : List Value} (S : Nat → Heap → World → Prop) (p : Nat → Bool)
  (hS : ∀ k h w, S k h w → Sub h w ∧ Sl LVoter h v xs)
  (hf : ∀ k x h w vs, S k h w → xs[k]? = some x → LVoter.R h vs x → ∀ u, u = .agg vs.toArray → Calls Tryz.prog g (u :: caps).toArray w (fun e w' => ∃ h', e = .returned (.bool (p k)) ∧ S (k + 1) h' w'))
  (hg : ∀ a w, (callFunc g a).run Tryz.prog w = .ok (.enter g a) w) {h : Heap} {w : World} (h0 : S 0 h w) :
  Calls Tryz.prog 242 #[v, .func (.func g) #[] caps.toArray] w (fun e w' => ∃ h' k, e = .returned (.int .i64 (if k < xs.length then (k : Int) else -1)) ∧ k ≤ xs.length ∧ (∀ j, j < k → p j = false) ∧ (k < xs.length → p k = true) ∧ S (if k < xs.length then k + 1 else k) h' w') := by
 refine zP (n := 19) Tryz.func242 Y Y Y<|have hb:=(hS 0 h w h0).2.le;zf<|zt Y Y<|Z<|zl<|zf<|zT (v := v) Y Y<|zaN (hS 0 h w h0).2 Y zaH Y<|zi Y Y<|Z<|zH ?_;refine zay ([4, 5] ++ zbX 8 11) (G := Nat × Heap) (fun ⟨k, _⟩ => [(8, .int .i64 (k : Int))]) (fun ⟨k, h'⟩ w' => S k h' w' ∧ k ≤ xs.length ∧ ∀ j, j < k → p j = false) (fun ⟨k, _⟩ => xs.length - k) ⟨0, h⟩ ⟨rfl, trivial⟩ ⟨h0, by omega, by intros; omega⟩ ?_;rintro ⟨k, h1⟩ _ w1 ⟨hS1, hk, hp⟩;obtain ⟨hsub, hsl⟩ := hS k h1 w1 hS1;refine zf<|zaZ Y Y Y<|Z<|zl ?_;refine zaj rfl (fun c1 => ?_) (fun c1 => ?_)
 ·replace c1 := zhe c1;refine zz<|O<|zl<|zH<|zf<|zi Y Y<|zt Y Y<|Z<|zf<|zhg Y Y<|zT (v := v) Y Y<|zi Y Y ?_;have hy : ∃ y, xs[k]? = some y := ⟨_, List.getElem?_eq_getElem zr⟩;obtain ⟨y, hy⟩ := hy;obtain ⟨b, o, vs, he, hc, hr⟩ := Sl.elem hsl hy;refine zU he Y Y (hk := Y) (hu := zaH) (hz := zbI) Y<|zw hsub hc Y Tryz.isAgg58 zbI (LVoter.len hr) Y ?_;refine zaw rfl rfl (zbL (fs := []) (cs := caps) rfl rfl hg rfl) ((hf k y h1 w1 _ hS1 hy hr _ rfl).mono ?_);rintro e w2 ⟨h2, rfl, hS2⟩;refine ⟨_, rfl, ?_⟩;refine Z ?_;refine zaj rfl (fun c2 => ?_) (fun c2 => ?_)
  ·refine zl ?_;refine zn<|zi Y Y<|zt Y Y<|Z<|zx ?_
   repeat (first | refine zK ?_ | refine zd ?_)
   refine zc Tryz.results242 ?_;have hlt : k < xs.length := by omega
   exact ⟨h2, k, by rw [if_pos hlt]; rfl, hk, hp, fun _ => c2, by rw [if_pos hlt]; exact hS2⟩
  ·refine zz ?_;refine zQ<|O<|zn ?_;refine zj rfl rfl (ziO rfl rfl zr) ?_;refine zi Y Y<|Z ?_;refine ⟨⟨k + 1, h2⟩, ⟨rfl, trivial⟩, ?_, ⟨hS2, by omega, ?_⟩, ?_⟩
   ·exact zax
   ·intro j hj
    rcases Nat.lt_or_ge j k with h3 | h3
    ·exact hp j h3
    ·obtain rfl : j = k := by omega
     exact c2
   ·show xs.length - (k + 1) < xs.length - k;omega
 ·replace c1 := t_of c1;refine zaJ<|zm<|zm<|zap<|O<|zf<|zt Y Y<|Z<|zx<|zc Tryz.results242 ?_;have hlt : ¬ k < xs.length := by omega
  exact ⟨h1, k, by rw [if_neg hlt]; rfl, hk, hp, fun q => absurd q hlt, by rw [if_neg hlt]; exact hS1⟩

theorem zeF {xs : List Voter} {v : Value} {g : FuncId} {caps : List Value} (S : Nat → Heap → World → Prop) (p : Nat → Bool)
  (hS : ∀ k h w, S k h w → Sub h w ∧ Sl LVoter h v xs)
  (hf : ∀ k x h w vs, S k h w → xs[k]? = some x → LVoter.R h vs x → ∀ u, u = .agg vs.toArray → Calls Tryz.prog g (u :: caps).toArray w (fun e w' => ∃ h', e = .returned (.bool (p k)) ∧ S (k + 1) h' w'))
  (hg : ∀ a w, (callFunc g a).run Tryz.prog w = .ok (.enter g a) w) {h : Heap} {w : World} (h0 : S 0 h w) :
  Calls Tryz.prog 240 #[v, .func (.func g) #[] caps.toArray] w (fun e w' => ∃ h' k, e = .returned (.bool (decide (k < xs.length))) ∧ k ≤ xs.length ∧ (∀ j, j < k → p j = false) ∧ (k < xs.length → p k = true) ∧ S (if k < xs.length then k + 1 else k) h' w') := by
 refine zP (n := 9) Tryz.func240 Y Y Y<|zf<|zJ Y Y<|Z<|zf<|zT (v := v) Y Y<|zhg Y Y ?_;refine zaw rfl rfl (zaV rfl Tryz.call242 rfl) ((zeS S p hS hf hg h0).mono ?_);rintro e w2 ⟨h2, k, rfl, q1, q2, q3, q4⟩;refine ⟨_, rfl, ?_⟩;refine ziL Y Y Y<|zJ Y Y<|Z<|zx<|zc Tryz.results240 ?_;refine ⟨h2, k, congrArg Ending.returned (zy ?_), q1, q2, q3, q4⟩
 by_cases hlt : k < xs.length
 ·simp [hlt]
 ·simp [hlt]
theorem zeU {xs : List Voter} {v : Value} {g : FuncId} {caps : List Value} {h : Heap} {w : World} (hs : Sub h w) (hx : Sl LVoter h v xs) (q : Voter → Bool)
  (hg : ∀ a w, (callFunc g a).run Tryz.prog w = .ok (.enter g a) w)
  (hf : ∀ x h' w' vs, Le h h' → Sub h' w' → x ∈ xs → LVoter.R h' vs x → ∀ u, u = .agg vs.toArray → Calls Tryz.prog g (u :: caps).toArray w' (Rets h' w' fun _ _ r => r = .bool (q x))) :
  Calls Tryz.prog 240 #[v, .func (.func g) #[] caps.toArray] w (Rets h w fun _ _ r => r = .bool (xs.any q)) := by
 refine (zeF (fun k h' w' => St h w h' w' [] ∧ k ≤ xs.length) (fun k => ((xs[k]?).map q).getD false) (fun k h' w' hk => ⟨hk.1.sub, hx.up hk.1.le⟩) ?_ hg ⟨St.start hs, Nat.zero_le _⟩).mono ?_
 ·rintro k x h' w' vs ⟨st, _⟩ hk hr u hu;refine (hf x h' w' vs st.le st.sub (List.mem_of_getElem? hk) hr u hu).mono ?_;rintro e w'' ⟨h'', r, rfl, s, rfl⟩;obtain ⟨hlt, _⟩ := List.getElem?_eq_some_iff.1 hk;exact ⟨h'', by simp [hk], st.call0 s, hlt⟩
 ·rintro e w' ⟨h', k, rfl, q1, q2, q3, q4⟩;refine ⟨h', _, rfl, q4.1, zy ?_⟩
  by_cases hlt : k < xs.length
  ·have h3 := q3 hlt;rw [List.getElem?_eq_getElem hlt] at h3;simp only [Option.map_some, Option.getD_some] at h3;have : xs.any q = true := List.any_eq_true.2 ⟨_, List.getElem_mem hlt, h3⟩;simp [hlt, this]
  ·have : xs.any q = false := by
    rw [List.any_eq_false];intro x hx';obtain ⟨j, hj⟩ := List.mem_iff_getElem?.1 hx';obtain ⟨h5, _⟩ := List.getElem?_eq_some_iff.1 hj;have := q2 j zr;simpa [hj] using this
   simp [hlt, this]
end Go.Pk

namespace Go.Pk
open Go Go.RowKit Go.Proofs
theorem c_leaf_in_1 {h : Heap} {w : World} (hs : Sub h w) (n : Int) {lo_b : Nat} {lo : Int} (lo_c : Cells h lo_b 0 [.int .i64 lo]) {hi_b : Nat} {hi : Int} (hi_c : Cells h hi_b 0 [.int .i64 hi]) : Calls Tryz.prog 179 #[.int .i64 n, .pointer (some ⟨lo_b, 0, none⟩), .pointer (some ⟨hi_b, 0, none⟩)] w (Rets h w (fun _ _ res_ => res_ = .bool ((decide (n < lo) || decide (hi < n))))) := by
 refine zP (n := 13) Tryz.func179 Y Y Y<|have st0:=zbn hs;zf<|zJ Y Y<|Z<|zf<|zi Y Y<|U (j := 0) st0.sub lo_c Y Y Y zF Y<|zaZ Y Y Y<|zaa Y Y ?_;refine zal (d := 8) rfl (fun g1 => ?_) (fun g1 => ?_)
 ·refine zS 3 Y<|zW (v := (.bool _)) Y Y Y<|zJ Y Y<|Z<|zx<|zc Tryz.results179 ?_;refine ⟨h, _, rfl, st0.done, ?_⟩;refine zy ?_
  first | (simp_all; done) | (simp_all; omega)
 refine M Y Y Y<|zi Y Y<|M Y Y Y<|U (j := 0) st0.sub hi_c Y Y Y zF Y<|M Y Y Y<|zdO Y Y Y<|zX (v := (.bool _)) Y Y Y<|zJ Y Y<|Z<|zx<|zc Tryz.results179 ?_;refine ⟨h, _, rfl, st0.done, ?_⟩;refine zy ?_
 first | (simp_all; done) | (simp_all; omega)
theorem zfU {h : Heap} {w : World} (hs : Sub h w) (lo : Int) (hi : Int) {all__v : Value} {all_ : (List Int)} (all__f : Sl LInt h all__v all_) : Calls Tryz.prog 125 #[.int .i64 lo, .int .i64 hi, all__v] w (Rets h w (fun _ _ res_ => res_ = .bool (zcU all_ lo hi))) := by
 refine zP (n := 11) Tryz.func125 Y Y Y<|have st0:=zbn hs;have all__f_b:=all__f.le;zf<|zC st0 (cs := [.int .i64 lo]) Y Y Y<|fun b1 w2 h3 le4 hc5 st6=>zC st6 (cs := [.int .i64 hi]) Y Y Y<|fun b7 w8 h9 le10 hc11 st12=>zJ Y Y<|Z<|zf<|zT (v := all__v) Y Y<|zcQ Y Y Y ?_;have l13 := le4.t le10;refine zh st12 rfl rfl rfl Tryz.call97 rfl (zdJ st12.sub (all__f.up l13) (fun x_ => (decide ((x_) < (lo)) || decide ((hi) < (x_)))) Tryz.call179 (fun x_ h_ w_ vs_ le_ hs_ hx_ hr_ u_ hu_ => by cases hu_; cases hr_; exact c_leaf_in_1 hs_ _ (lo := lo) ((hc5.up le10).up le_) (hi := hi) (hc11.up le_))) ?_;intro r14 w15 h16 le17 st18 q19;subst q19;refine zbA Y Y<|zJ Y Y<|Z<|zx<|zc Tryz.results125 ?_;refine ⟨h16, _, rfl, st18.done, ?_⟩;refine zy ?_;exact inAll_eq all_ lo hi
theorem c_stem_in_1 {h : Heap} {w : World} (hs : Sub h w) (n : Int) {lo_b : Nat} {lo : Int} (lo_c : Cells h lo_b 0 [.int .i64 lo]) {hi_b : Nat} {hi : Int} (hi_c : Cells h hi_b 0 [.int .i64 hi]) : Calls Tryz.prog 157 #[.int .i64 n, .pointer (some ⟨lo_b, 0, none⟩), .pointer (some ⟨hi_b, 0, none⟩)] w (Rets h w (fun _ _ res_ => res_ = .bool ((decide (n < lo) || decide (hi < n))))) := by
 refine zP (n := 13) Tryz.func157 Y Y Y<|have st0:=zbn hs;zf<|zJ Y Y<|Z<|zf<|zi Y Y<|U (j := 0) st0.sub lo_c Y Y Y zF Y<|zaZ Y Y Y<|zaa Y Y ?_;refine zal (d := 8) rfl (fun g1 => ?_) (fun g1 => ?_)
 ·refine zS 3 Y<|zW (v := (.bool _)) Y Y Y<|zJ Y Y<|Z<|zx<|zc Tryz.results157 ?_;refine ⟨h, _, rfl, st0.done, ?_⟩;refine zy ?_
  first | (simp_all; done) | (simp_all; omega)
 refine M Y Y Y<|zi Y Y<|M Y Y Y<|U (j := 0) st0.sub hi_c Y Y Y zF Y<|M Y Y Y<|zdO Y Y Y<|zX (v := (.bool _)) Y Y Y<|zJ Y Y<|Z<|zx<|zc Tryz.results157 ?_;refine ⟨h, _, rfl, st0.done, ?_⟩;refine zy ?_
 first | (simp_all; done) | (simp_all; omega)
theorem zjr {h : Heap} {w : World} (hs : Sub h w) (lo : Int) (hi : Int) {all__v : Value} {all_ : (List Int)} (all__f : Sl LInt h all__v all_) : Calls Tryz.prog 110 #[.int .i64 lo, .int .i64 hi, all__v] w (Rets h w (fun _ _ res_ => res_ = .bool (zcU all_ lo hi))) := by
 refine zP (n := 11) Tryz.func110 Y Y Y<|have st0:=zbn hs;have all__f_b:=all__f.le;zf<|zC st0 (cs := [.int .i64 lo]) Y Y Y<|fun b1 w2 h3 le4 hc5 st6=>zC st6 (cs := [.int .i64 hi]) Y Y Y<|fun b7 w8 h9 le10 hc11 st12=>zJ Y Y<|Z<|zf<|zT (v := all__v) Y Y<|zcQ Y Y Y ?_;have l13 := le4.t le10;refine zh st12 rfl rfl rfl Tryz.call97 rfl (zdJ st12.sub (all__f.up l13) (fun x_ => (decide ((x_) < (lo)) || decide ((hi) < (x_)))) Tryz.call157 (fun x_ h_ w_ vs_ le_ hs_ hx_ hr_ u_ hu_ => by cases hu_; cases hr_; exact c_stem_in_1 hs_ _ (lo := lo) ((hc5.up le10).up le_) (hi := hi) (hc11.up le_))) ?_;intro r14 w15 h16 le17 st18 q19;subst q19;refine zbA Y Y<|zJ Y Y<|Z<|zx<|zc Tryz.results110 ?_;refine ⟨h16, _, rfl, st18.done, ?_⟩;refine zy ?_;exact inAll_eq all_ lo hi
theorem c_leaf_word_1 {h : Heap} {w : World} (hs : Sub h w) (b : Int) (b_l : 0 ≤ b ∧ b ≤ 255) : Calls Tryz.prog 196 #[.int .u8 b] w (Rets h w (fun _ _ res_ => res_ = .bool ((decide (b < 97) || decide (122 < b))))) := by
 refine zP (n := 9) Tryz.func196 Y Y Y<|have st0:=zbn hs;zf<|zJ Y Y<|Z<|zf<|zi Y Y<|zaZ Y Y Y<|zaa Y Y ?_;refine zal (d := 5) rfl (fun g1 => ?_) (fun g1 => ?_)
 ·refine zS 2 Y<|zW (v := (.bool _)) Y Y Y<|zJ Y Y<|Z<|zx<|zc Tryz.results196 ?_;refine ⟨h, _, rfl, st0.done, ?_⟩;refine zy ?_
  first | (simp_all; done) | (simp_all; omega)
 refine M Y Y Y<|zi Y Y<|M Y Y Y<|zdO Y Y Y<|zX (v := (.bool _)) Y Y Y<|zJ Y Y<|Z<|zx<|zc Tryz.results196 ?_;refine ⟨h, _, rfl, st0.done, ?_⟩;refine zy ?_
 first | (simp_all; done) | (simp_all; omega)
theorem c_leaf_word {h : Heap} {w : World} (hs : Sub h w) (s : Str) (s_le : s.length ≤ 281474976710656) : Calls Tryz.prog 152 #[zN s] w (Rets h w (fun _ _ res_ => res_ = .bool (zdx s))) := by
 refine zP (n := 13) Tryz.func152 Y Y Y<|have st0:=zbn hs;zf<|zJ Y Y<|Z<|zf<|zcw Y Y<|zcH Y zaA Y<|zah (L := LInt) (xs := [(s.length : Int)]) (cs := [.int .i64 (s.length : Int)]) st0 (Enc.cons (L := LInt) (vs := [.int .i64 (s.length : Int)]) (x := (s.length : Int)) (h := h) (Y) Enc.nil) Y Y Y zk Tryz.info3 Y Y Y za<|fun v1 w2 h5 le6 f3 st4=>zh st4 Y Y Y zga Y (zfU st4.sub _ _ f3)<|fun r7 w8 h9 le10 st11 q12=> ?_;subst q12;refine zaa Y Y ?_;refine zaF (d := 7) rfl (fun g13 => ?_) (fun g13 => ?_)
 ·refine M Y Y Y<|zcw Y Y<|M Y Y Y ?_;refine OpsL.strBytes st11 (s := s) rfl (by first | assumption | omega | (simp; omega)) rfl zaA Tryz.underlying193 Tryz.underlying5 zbx ?_;intro v14 w15 h16 le17 f18 st19;refine M Y Y Y ?_;refine zh st19 rfl rfl rfl Tryz.call114 rfl (zew st19.sub f18 (fun x_ => (decide ((x_) < 97) || decide (122 < (x_)))) Tryz.call196 (fun x_ h_ w_ vs_ le_ hs_ hx_ hr_ u_ hu_ => by cases hu_; obtain ⟨hr1_, hr2_⟩ := hr_; cases hr1_; exact c_leaf_word_1 hs_ _ hr2_)) ?_;intro r20 w21 h22 le23 st24 q25;subst q25;refine M Y Y Y<|zbA Y Y<|zW (v := (.bool _)) Y Y Y<|zJ Y Y<|Z<|zx<|zc Tryz.results152 ?_;refine ⟨h22, _, rfl, st24.done, ?_⟩;refine zy ?_;simp_all [wordB_eq]
 refine zS 4 Y<|zX (v := (.bool _)) Y Y Y<|zJ Y Y<|Z<|zx<|zc Tryz.results152 ?_;refine ⟨h9, _, rfl, st11.done, ?_⟩;refine zy ?_;simp_all [wordB_eq]
theorem c_leaf_Check_1 {h : Heap} {w : World} (hs : Sub h w) (s : Str) (s_le : s.length ≤ 281474976710656) : Calls Tryz.prog 151 #[zN s] w (Rets h w (fun _ _ res_ => res_ = .bool ((!zdx s)))) := by
 refine zP (n := 6) Tryz.func151 Y Y Y<|have st0:=zbn hs;zf<|zJ Y Y<|Z<|zf<|zcw Y Y<|zh st0 Y Y Y Tryz.call152 Y (c_leaf_word st0.sub _ zbi)<|fun r1 w2 h3 le4 st5 q6=> ?_;subst q6;refine zbA Y Y<|zJ Y Y<|Z<|zx<|zc Tryz.results151 ?_;refine ⟨h3, _, rfl, st5.done, ?_⟩;refine zy ?_;rfl
theorem c_leaf_Check {h : Heap} {w : World} (hs : Sub h w) {t : Text} {t_v0 : Value} (t_f0 : Sl LChapter h t_v0 t.chapters) : Calls Tryz.prog 106 #[.agg #[t_v0]] w (Rets h w (fun _ _ res_ => res_ = .int .i64 ((if zbm t then 0 else 10)))) := by
 refine zP (n := 64) Tryz.func106 Y Y Y<|have st0:=zbn hs;have t_f0_b:=t_f0.le;zf<|zC st0 (cs := [t_v0]) Y Y Y<|fun b1 w2 h3 le4 hc5 st6=>zt Y Y<|Z<|W.scope<|zl<|zf<|E Y zaO Y zbw Y Y<|U (j := 0) st6.sub hc5 Y Y Y zbV Y<|zaN (t_f0.up le4) Y zaB Y<|zah (L := LInt) (xs := [(t.chapters.length : Int)]) (cs := [.int .i64 (t.chapters.length : Int)]) st6 (Enc.cons (L := LInt) (vs := [.int .i64 (t.chapters.length : Int)]) (x := (t.chapters.length : Int)) (h := h3) (Y) Enc.nil) Y Y Y zk Tryz.info3 Y Y Y za<|fun v7 w8 h11 le12 f9 st10=>zh st10 Y Y Y zga Y (zfU st10.sub _ _ f9)<|fun r13 w14 h15 le16 st17 q18=> ?_;subst q18;refine zbA Y Y<|Z ?_;refine zaj rfl (fun c19 => ?_) (fun c19 => ?_)
 ·refine zf<|zt Y Y<|Z<|zx<|zd<|zeN<|zc zeZ ?_;refine ⟨h15, _, rfl, st17.done, ?_⟩;refine zag ?_;simp_all [zbm]
 refine zz<|O<|zf<|zt Y Y<|Z<|zf<|zgb (κ := Int) (υ := Bool) (ek := (fun n : Int => .int .i64 n)) (eu := (fun b : Bool => .bool b)) st17 Y<|fun v20 o21 w22 f23 st24=> ?_;obtain ⟨mb25, rfl⟩ := f23.form;have nd26 : (([] : List (Int × Bool)).map (·.1)).Nodup := by simp
 refine zaf (v := (.map (some mb25))) Y Y<|Z<|zl<|W.label<|O<|zl<|zf<|E Y zaO Y zbw Y Y<|U (j := 0) st24.sub (hc5.up (le12.t le16)) Y Y Y zbV Y<|have l27:=(le4.t le12).t le16;zaN (t_f0.up l27) Y zaB Y<|zi Y Y<|Z<|zH ?_;refine zay ([2, 3, 6, 8] ++ zbX 19 44) (G := Nat × List (Int × Bool) × List (Nat × Obj) × Heap) (fun ⟨i, m, o_4, h28⟩ => [(3, .int .i64 0), (19, .int .i64 (i : Int))]) (fun ⟨i, m, o_4, h28⟩ w' => Le h15 h28 ∧ St h w h28 w' [o_4] ∧ (OM (fun n : Int => .int .i64 n) (fun b : Bool => .bool b) (m) o_4 (.map (some mb25))) ∧ (((m).map (·.1)).Nodup) ∧ (i ≤ t.chapters.length) ∧ ((t.chapters.take i).all zbN = true) ∧ (((t.chapters.take i).map (·.id)).Nodup) ∧ (∀ k, (zbU m k).getD false = decide (k ∈ (t.chapters.take i).map (·.id)))) (fun ⟨i, m, o_4, h28⟩ => t.chapters.length - i) ⟨0, [], o21, h15⟩ ⟨rfl, rfl, trivial⟩ ⟨Le.refl _, st24, (by have q := f23; exact q), (by have q := nd26; exact q), zba, zba, zba, (by intro k; simp [zbU])⟩ ?_;rintro ⟨i, m, o_4, h28⟩ _ w31 ⟨le29, st30, hM_4, hN_4, hi, hA, hN, hm⟩;refine zf<|zaZ Y Y Y<|Z<|zl ?_;refine zG rfl (fun c32 => ?_) (fun c32 => ?_)
 ·refine zz<|O<|zl<|zH<|zf ?_;obtain ⟨c, hc⟩ : ∃ y_, (t.chapters)[i]? = some y_ := zbE zr;have l37 := l27.t le29;obtain ⟨b33, o34, _, he36, hc35, hr_c⟩ := Sl.elem (t_f0.up l37) hc;obtain ⟨v38, rfl, f39⟩ := hr_c;have f39_b := f39.le;refine zU he36 Y Y (hk := Y) (hu := zaB) (hz := zbq) Y<|zw st30.sub hc35 Y Tryz.isAgg107 zbq Y Y<|zR st30 Tryz.zeroValue107 Y Y<|fun b40 w41 st42=>zL st42 (k := 1) Y Y Y (zb Y (zb f39.one zas)) zbq Y Y Y<|fun w43 st44=> ?_;obtain ⟨h45, le46, hb47, st49⟩ := st44.freeze (k := 1) rfl;have hc48 := Cells.of hb47;refine Z<|zl<|zf<|E Y zaE Y zq Y Y<|U (j := 0) st49.sub hc48 Y Y Y zF Y<|zah (L := LInt) (xs := [(c.id)]) (cs := [.int .i64 (c.id)]) st49 (Enc.cons (L := LInt) (vs := [.int .i64 (c.id)]) (x := (c.id)) (h := h45) (Y) Enc.nil) Y Y Y zk Tryz.info3 Y Y Y za<|fun v50 w51 h54 le55 f52 st53=>zh st53 Y Y Y zga Y (zfU st53.sub _ _ f52)<|fun r56 w57 h58 le59 st60 q61=> ?_;subst q61;refine zbA Y Y<|zaa Y Y ?_;refine zaF (d := 28) rfl (fun g62 => ?_) (fun g62 => ?_)
  ·refine zS 4 Y<|zW (v := (.bool _)) Y Y Y<|zaa Y Y<|zS 6 Y<|zW (v := (.bool _)) Y Y Y<|Z ?_;refine zaj rfl (fun c63 => ?_) (fun c63 => ?_)
   ·refine zf<|zt Y Y<|Z<|zx<|zd<|zK<|zd<|zd<|zK<|zd<|zeN<|zc zeZ ?_;refine ⟨h58, _, rfl, st60.done, ?_⟩;refine zag ?_;have q0 : zbN c = false := by
     have q := g62;simp at q;simp [zbN, q]
    have q := zcT (p := zbN) hc q0;simp [zbm, q]
   cases c63
  refine M Y Y Y<|zT (v := (.map (some mb25))) Y Y<|M Y Y Y<|E Y zaE Y zq Y Y<|M Y Y Y<|U (j := 0) st60.sub (hc48.up (le55.t le59)) Y Y Y zF Y<|M Y Y Y<|zj Y Y (r_look (k := (c.id)) (zu := false) (zjE zcp) Tryz.underlying187 hM_4 (st60.ent (k := 0) Y) zfW Y Y Y)<|zX (v := (.bool _)) Y Y Y<|zaa Y Y ?_;refine zaF (d := 34) rfl (fun g64 => ?_) (fun g64 => ?_)
  ·refine zS 6 Y<|zW (v := (.bool _)) Y Y Y<|Z ?_;refine zaj rfl (fun c65 => ?_) (fun c65 => ?_)
   ·refine zf<|zt Y Y<|Z<|zx<|zd<|zK<|zd<|zd<|zK<|zd<|zeN<|zc zeZ ?_;refine ⟨h58, _, rfl, st60.done, ?_⟩;refine zag ?_;have q0 := g64;rw [hm] at q0;have q := zja (f := (·.id)) hc (by simpa using q0);simp [zbm, q]
   cases c65
  refine M Y Y Y<|E Y zaE Y zbH Y Y<|M Y Y Y<|U (j := 1) st60.sub (hc48.up (le55.t le59)) Y Y Y zcj Y<|M Y Y Y<|zaN (f39.up ((le46.t le55).t le59)) Y zaL Y<|M Y Y Y<|zah (L := LInt) (xs := [(c.lines.length : Int)]) (cs := [.int .i64 (c.lines.length : Int)]) st60 (Enc.cons (L := LInt) (vs := [.int .i64 (c.lines.length : Int)]) (x := (c.lines.length : Int)) (h := h58) (Y) Enc.nil) Y Y Y zk Tryz.info3 Y Y Y za<|fun v66 w67 h70 le71 f68 st69=>M Y Y Y<|zh st69 Y Y Y zga Y (zfU st69.sub _ _ f68)<|fun r72 w73 h74 le75 st76 q77=> ?_;subst q77;refine M Y Y Y<|zbA Y Y<|zX (v := (.bool _)) Y Y Y<|Z ?_;refine zaj rfl (fun c78 => ?_) (fun c78 => ?_)
  ·refine zf<|zt Y Y<|Z<|zx<|zd<|zK<|zd<|zd<|zK<|zd<|zeN<|zc zeZ ?_;refine ⟨h74, _, rfl, st76.done, ?_⟩;refine zag ?_;have q0 : zbN c = false := by
    have q := c78;simp at q;simp [zbN, q]
   have q := zcT (p := zbN) hc q0;simp [zbm, q]
  refine zz<|O<|zf<|zT (v := (.map (some mb25))) Y Y<|E Y zaE Y zq Y Y<|have l79:=((le55.t le59).t le71).t le75;U (j := 0) st76.sub (hc48.up l79) Y Y Y zF Y<|zeM (i := 0) st76 hM_4 Y hN_4 (zjE zcp) Tryz.underlying187 Y (k := (c.id)) Y (u := true) Y<|fun o80 w81 _ e82 f83 nd84 st85=> ?_;subst e82;refine Z<|zf<|E Y zaE Y zbH Y Y<|U (j := 1) st85.sub (hc48.up l79) Y Y Y zcj Y<|have l86:=(((le46.t le55).t le59).t le71).t le75;zaN (f39.up l86) Y zaL Y<|zi Y Y<|Z<|zH ?_;refine zay ([3, 8] ++ zbX 48 14) (G := Nat × List (Nat × Obj) × Heap) (fun ⟨k2, o_4, h87⟩ => [(3, .int .i64 0), (48, .int .i64 (k2 : Int))]) (fun ⟨k2, o_4, h87⟩ w' => Le h74 h87 ∧ St h w h87 w' [o_4, []] ∧ (OM (fun n : Int => .int .i64 n) (fun b : Bool => .bool b) (zgV m c.id true) o_4 (.map (some mb25))) ∧ (((zgV m c.id true).map (·.1)).Nodup) ∧ (k2 ≤ c.lines.length) ∧ ((c.lines.take k2).all zgE = true)) (fun ⟨k2, o_4, h87⟩ => c.lines.length - k2) ⟨0, o80, h74⟩ ⟨rfl, rfl, trivial⟩ ⟨Le.refl _, st85, (by have q := f83; exact q), (by have q := nd84; exact q), zba, zba⟩ ?_;rintro ⟨k2, o_4, h87⟩ _ w90 ⟨le88, st89, hM_4, hN_4, hk2, hl⟩;refine zf<|zaZ Y Y Y<|Z<|zl ?_;refine zG rfl (fun c91 => ?_) (fun c91 => ?_)
  ·refine zz<|O<|zl<|zH<|zf ?_;obtain ⟨ln, hln⟩ : ∃ y_, (c.lines)[k2]? = some y_ := zbE zr;obtain ⟨b92, o93, _, he95, hc94, hr_ln⟩ := Sl.elem (f39.up (l86.t le88)) hln;obtain ⟨v96, rfl, f97⟩ := hr_ln;have f97_b := f97.le;refine zU he95 Y Y (hk := Y) (hu := zaL) (hz := zdK) Y<|U (j := 0) st89.sub hc94 Y Y Y zek Y<|zaf (v := v96) Y Y<|Z<|zf<|zT (v := v96) Y Y<|zaN f97 Y zV Y<|zah (L := LInt) (xs := [(ln.length : Int)]) (cs := [.int .i64 (ln.length : Int)]) st89 (Enc.cons (L := LInt) (vs := [.int .i64 (ln.length : Int)]) (x := (ln.length : Int)) (h := h87) (Y) Enc.nil) Y Y Y zk Tryz.info3 Y Y Y za<|fun v98 w99 h102 le103 f100 st101=>zh st101 Y Y Y zga Y (zfU st101.sub _ _ f100)<|fun r104 w105 h106 le107 st108 q109=> ?_;subst q109;refine zbA Y Y<|zaa Y Y ?_;refine zaF (d := 57) rfl (fun g110 => ?_) (fun g110 => ?_)
   ·refine zS 2 Y<|zW (v := (.bool _)) Y Y Y<|Z ?_;refine zaj rfl (fun c111 => ?_) (fun c111 => ?_)
    ·refine zf<|zt Y Y<|Z<|zaJ<|zhU Y<|zm<|zm<|zhU Y<|zhU Y<|zm<|zm<|zap<|O<|zf<|zi Y Y<|zt Y Y<|Z<|zx<|zeN<|zc zeZ ?_;refine ⟨h106, _, rfl, st108.done, ?_⟩;refine zag ?_;have q1 : zgE ln = false := by
      have q := g110;simp at q;simp [zgE, q]
     have q2 := zcT (p := zgE) hln q1;have q0 : zbN c = false := by simp [zbN, q2]
     have q := zcT (p := zbN) hc q0;simp [zbm, q]
    cases c111
   refine M Y Y Y<|zT (v := v96) Y Y<|M Y Y Y ?_;refine zh st108 rfl rfl rfl Tryz.call150 rfl (zgi st108.sub (f97.up (le103.t le107)) (fun x_ => (!zdx (x_))) Tryz.call151 (fun x_ h_ w_ vs_ le_ hs_ hx_ hr_ u_ hu_ => by cases hu_; obtain ⟨hr1_, hr2_⟩ := hr_; cases hr1_; simp only [big] at hr2_; exact c_leaf_Check_1 hs_ _ hr2_)) ?_;intro r112 w113 h114 le115 st116 q117;subst q117;refine zX (v := (.bool _)) Y Y Y<|Z ?_;refine zaj rfl (fun c118 => ?_) (fun c118 => ?_)
   ·refine zf<|zt Y Y<|Z<|zaJ<|zhU Y<|zm<|zm<|zhU Y<|zhU Y<|zm<|zm<|zap<|O<|zf<|zi Y Y<|zt Y Y<|Z<|zx<|zeN<|zc zeZ ?_;refine ⟨h114, _, rfl, st116.done, ?_⟩;refine zag ?_;have q1 : zgE ln = false := by
     have q := c118;rw [any_not] at q;simp only [zgE, Bool.and_eq_false_iff];right; simpa using q
    have q2 := zcT (p := zgE) hln q1;have q0 : zbN c = false := by simp [zbN, q2]
    have q := zcT (p := zbN) hc q0;simp [zbm, q]
   refine zz<|zQ<|O<|zn<|zaQ Y Y zaY Y<|zi Y Y<|Z ?_;have l119 := ((le88.t le103).t le107).t le115;refine ⟨⟨k2 + 1, o_4, h114⟩, ⟨rfl, rfl, trivial⟩, ?_, ⟨l119, st116, ?_, ?_, ?_, ?_⟩, ?_⟩
   ·exact zax
   ·have q := hM_4;exact q
   ·have q := hN_4;exact q
   ·first | omega | (simp; omega)
   ·exact zcD hl hln (by simp_all [zgE])
   show c.lines.length - ((k2 + 1)) < c.lines.length - k2;omega
  refine zaJ<|zm<|zm<|zap<|zQ<|O<|zn<|zaQ Y Y zaY Y<|zi Y Y<|Z ?_;have HCH : zbN c = true := by
   have q := zdg hl zr;simp_all [zbN]
  have HD : (zbU m c.id).getD false = false := by simp_all
  have l120 := (((((le29.t le46).t le55).t le59).t le71).t le75).t le88;refine ⟨⟨i + 1, zgV m c.id true, o_4, h87⟩, ⟨rfl, rfl, trivial⟩, ?_, ⟨l120, st89.take 1, ?_, ?_, ?_, ?_, ?_, ?_⟩, ?_⟩
  ·exact zax
  ·have q := hM_4;exact q
  ·have q := hN_4;exact q
  ·first | omega | (simp; omega)
  ·exact zcD hA hc HCH
  ·rw [zbg hc, List.map_append, List.nodup_append];refine ⟨hN, by simp, ?_⟩;intro a ha b hb e;simp only [List.map_cons, List.map_nil, List.mem_singleton] at hb;subst hb;subst e;rw [hm] at HD;exact absurd ha (by simpa using HD)
  ·intro k;rw [zjl, zbg hc, List.map_append]
   by_cases e : k = c.id
   ·simp [e]
   ·simp only [if_neg e, hm];simp [e]
  show t.chapters.length - ((i + 1)) < t.chapters.length - i;omega
 refine zaJ<|zm<|zm<|zap<|O<|zf<|zi Y Y<|zt Y Y<|Z<|zx<|zeN<|zc zeZ ?_;refine ⟨h28, _, rfl, st30.done, ?_⟩;refine zag ?_;have q := zdg hA zr;have q2 : t.chapters.take i = t.chapters := List.take_of_length_le zr;rw [q2] at hN;simp_all [zbm]
end Go.Pk

namespace Go.Pk
open Go Go.RowKit Go.Proofs
theorem zjs {h : Heap} {w : World} (hs : Sub h w) {a_v : Value} {a : (List Str)} (a_f : Sl LStr h a_v a) {b_v : Value} {b : (List Str)} (b_f : Sl LStr h b_v b) : Calls Tryz.prog 46 #[a_v, b_v] w (Rets h w (fun _ _ res_ => res_ = .bool (decide (a = b)))) := by
 refine zP (n := 26) Tryz.func46 Y Y Y<|have st0:=zbn hs;have a_f_b:=a_f.le;have b_f_b:=b_f.le;zf<|zJ Y Y<|Z<|zl<|zf<|zT (v := a_v) Y Y<|zaN a_f Y zV Y<|zT (v := b_v) Y Y<|zaN b_f Y zV Y<|zcK Y Y Y<|Z ?_;refine zG rfl (fun c1 => ?_) (fun c1 => ?_)
 ·refine zf<|zJ Y Y<|Z<|zx<|zd<|zc Tryz.results46 ?_;refine ⟨h, _, rfl, st0.done, ?_⟩;refine zy ?_;have q : a ≠ b := by
   rintro rfl;simp_all
  simp [q]
 refine zz<|O<|zl<|zf<|zt Y Y<|Z<|zH ?_;refine zay ([4, 5] ++ zbX 11 15) (G := Nat × Heap) (fun ⟨k, h2⟩ => [(5, .int .i64 (k : Int))]) (fun ⟨k, h2⟩ w' => Le h h2 ∧ St h w h2 w' [] ∧ (k ≤ a.length) ∧ (a.take k = b.take k)) (fun ⟨k, h2⟩ => a.length - k) ⟨0, h⟩ ⟨rfl, trivial⟩ ⟨Le.refl _, st0, zba, zba⟩ ?_;rintro ⟨k, h2⟩ _ w5 ⟨le3, st4, hk, he⟩;refine zl<|zf<|zi Y Y<|zT (v := a_v) Y Y<|zaN (a_f.up le3) Y zV Y<|zaZ Y Y Y<|Z ?_;refine zG rfl (fun c6 => ?_) (fun c6 => ?_)
 ·refine zz<|O<|zl<|zH<|zl<|zbW Tryz.mixed za (Cls h2 _) (Cls.drew st4)<|zgQ (v := a_v) Y Y<|zdl Y Y ?_;obtain ⟨x, hx⟩ : ∃ y_, (a)[k]? = some y_ := zbE zr;obtain ⟨b7, o8, _, he10, hc9, hr_x⟩ := Sl.elem (a_f.up le3) hx;obtain ⟨rfl, ls11⟩ := hr_x;simp only [big] at ls11;refine zch he10 Y Y (hk := Y) (hu := zV) (hz := zao) Y<|zB Y Y (fun _ hC => (zg (j := 0) hC.sub hc9 Y Y Y zaC))<|zgQ (v := b_v) Y Y<|zdl Y Y ?_;obtain ⟨y, hy⟩ : ∃ y_, (b)[k]? = some y_ := zbE zr;obtain ⟨b12, o13, _, he15, hc14, hr_y⟩ := Sl.elem (b_f.up le3) hy;obtain ⟨rfl, ls16⟩ := hr_y;simp only [big] at ls16;refine zch he15 Y Y (hk := Y) (hu := zV) (hz := zao) Y<|zB Y Y (fun _ hC => (zg (j := 0) hC.sub hc14 Y Y Y zaC))<|zB Y Y (fun _ _ => (r_sneq Y Y))<|zbF ?_;rintro w17 ⟨h18, s19⟩;have st20 := st4.call0 s19;refine O ?_;refine zG rfl (fun c21 => ?_) (fun c21 => ?_)
  ·refine zf<|zJ Y Y<|Z<|zx<|zK<|zd<|zd<|zK<|zd<|zc Tryz.results46 ?_;refine ⟨h18, _, rfl, st20.done, ?_⟩;refine zy ?_;have q := ne_of_get hx hy (by simpa using c21);simp [q]
  refine zz<|zQ<|O<|zn<|zi Y Y<|zaQ Y Y zaY Y<|zt Y Y<|Z ?_;have l22 := le3.trans s19.le;refine ⟨⟨k + 1, h18⟩, ⟨rfl, trivial⟩, ?_, ⟨l22, st20, ?_, ?_⟩, ?_⟩
  ·exact zax
  ·first | omega | (simp; omega)
  ·exact zig he hx hy (by simpa using c21)
  show a.length - ((k + 1)) < a.length - k;omega
 refine zaJ<|zm<|zm<|zap<|O<|zf<|zJ Y Y<|Z<|zx<|zc Tryz.results46 ?_;refine ⟨h2, _, rfl, st4.done, ?_⟩;refine zy ?_;have q := zjH he zr zr;simp [q]
theorem zdz {h : Heap} {w : World} (hs : Sub h w) {a_v : Value} {a : (List Int)} (a_f : Sl LInt h a_v a) {b_v : Value} {b : (List Int)} (b_f : Sl LInt h b_v b) : Calls Tryz.prog 20 #[a_v, b_v] w (Rets h w (fun _ _ res_ => res_ = .bool (decide (a = b)))) := by
 refine zP (n := 26) Tryz.func20 Y Y Y<|have st0:=zbn hs;have a_f_b:=a_f.le;have b_f_b:=b_f.le;zf<|zJ Y Y<|Z<|zl<|zf<|zT (v := a_v) Y Y<|zaN a_f Y zk Y<|zT (v := b_v) Y Y<|zaN b_f Y zk Y<|zcK Y Y Y<|Z ?_;refine zG rfl (fun c1 => ?_) (fun c1 => ?_)
 ·refine zf<|zJ Y Y<|Z<|zx<|zd<|zc Tryz.results20 ?_;refine ⟨h, _, rfl, st0.done, ?_⟩;refine zy ?_;have q : a ≠ b := by
   rintro rfl;simp_all
  simp [q]
 refine zz<|O<|zl<|zf<|zt Y Y<|Z<|zH ?_;refine zay ([4, 5] ++ zbX 11 15) (G := Nat × Heap) (fun ⟨k, h2⟩ => [(5, .int .i64 (k : Int))]) (fun ⟨k, h2⟩ w' => Le h h2 ∧ St h w h2 w' [] ∧ (k ≤ a.length) ∧ (a.take k = b.take k)) (fun ⟨k, h2⟩ => a.length - k) ⟨0, h⟩ ⟨rfl, trivial⟩ ⟨Le.refl _, st0, zba, zba⟩ ?_;rintro ⟨k, h2⟩ _ w5 ⟨le3, st4, hk, he⟩;refine zl<|zf<|zi Y Y<|zT (v := a_v) Y Y<|zaN (a_f.up le3) Y zk Y<|zaZ Y Y Y<|Z ?_;refine zG rfl (fun c6 => ?_) (fun c6 => ?_)
 ·refine zz<|O<|zl<|zH<|zl<|zbW Tryz.mixed za (Cls h2 _) (Cls.drew st4)<|zgQ (v := a_v) Y Y<|zdl Y Y ?_;obtain ⟨x, hx⟩ : ∃ y_, (a)[k]? = some y_ := zbE zr;obtain ⟨b7, o8, _, he10, hc9, hr_x⟩ := Sl.elem (a_f.up le3) hx;subst hr_x;refine zch he10 Y Y (hk := Y) (hu := zk) (hz := zq) Y<|zB Y Y (fun _ hC => (zg (j := 0) hC.sub hc9 Y Y Y zF))<|zgQ (v := b_v) Y Y<|zdl Y Y ?_;obtain ⟨y, hy⟩ : ∃ y_, (b)[k]? = some y_ := zbE zr;obtain ⟨b11, o12, _, he14, hc13, hr_y⟩ := Sl.elem (b_f.up le3) hy;subst hr_y;refine zch he14 Y Y (hk := Y) (hu := zk) (hz := zq) Y<|zB Y Y (fun _ hC => (zg (j := 0) hC.sub hc13 Y Y Y zF))<|u_neq Y Y Y<|zbF ?_;rintro w15 ⟨h16, s17⟩;have st18 := st4.call0 s17;refine O ?_;refine zG rfl (fun c19 => ?_) (fun c19 => ?_)
  ·refine zf<|zJ Y Y<|Z<|zx<|zK<|zd<|zd<|zK<|zd<|zc Tryz.results20 ?_;refine ⟨h16, _, rfl, st18.done, ?_⟩;refine zy ?_;have q := ne_of_get hx hy (by simpa using c19);simp [q]
  refine zz<|zQ<|O<|zn<|zi Y Y<|zaQ Y Y zaY Y<|zt Y Y<|Z ?_;have l20 := le3.trans s17.le;refine ⟨⟨k + 1, h16⟩, ⟨rfl, trivial⟩, ?_, ⟨l20, st18, ?_, ?_⟩, ?_⟩
  ·exact zax
  ·first | omega | (simp; omega)
  ·exact zig he hx hy (by simpa using c19)
  show a.length - ((k + 1)) < a.length - k;omega
 refine zaJ<|zm<|zm<|zap<|O<|zf<|zJ Y Y<|Z<|zx<|zc Tryz.results20 ?_;refine ⟨h2, _, rfl, st4.done, ?_⟩;refine zy ?_;have q := zjH he zr zr;simp [q]
theorem c_postilref04_Same {h : Heap} {w : World} (hs : Sub h w) {a : Lexicon} {a_v0 : Value} (a_f0 : Sl LRule h a_v0 a.rules) {a_v1 : Value} (a_f1 : Sl LDecision h a_v1 a.decisions) {b : Lexicon} {b_v0 : Value} (b_f0 : Sl LRule h b_v0 b.rules) {b_v1 : Value} (b_f1 : Sl LDecision h b_v1 b.decisions) : Calls Tryz.prog 21 #[.agg #[a_v0, a_v1], .agg #[b_v0, b_v1]] w (Rets h w (fun _ _ res_ => res_ = .bool (decide (a = b)))) := by
 refine zP (n := 59) Tryz.func21 Y Y Y<|have st0:=zbn hs;have a_f0_b:=a_f0.le;have a_f1_b:=a_f1.le;have b_f0_b:=b_f0.le;have b_f1_b:=b_f1.le;zf<|zC st0 (cs := [a_v0, a_v1]) Y Y Y<|fun b1 w2 h3 le4 hc5 st6=>zC st6 (cs := [b_v0, b_v1]) Y Y Y<|fun b7 w8 h9 le10 hc11 st12=>zJ Y Y<|Z<|zl<|zf<|E Y zak Y zcz Y Y<|U (j := 0) st12.sub (hc5.up le10) Y Y Y zdj Y<|have l13:=le4.t le10;zaN (a_f0.up l13) Y zbf Y<|E Y zak Y zcz Y Y<|U (j := 0) st12.sub hc11 Y Y Y zdj Y<|zaN (b_f0.up l13) Y zbf Y<|zcK Y Y Y<|zaa Y Y ?_;refine zal (d := 14) rfl (fun g14 => ?_) (fun g14 => ?_)
 ·refine zS 7 Y<|zW (v := (.bool _)) Y Y Y<|Z ?_;refine zaj rfl (fun c15 => ?_) (fun c15 => ?_)
  ·refine zf<|zJ Y Y<|Z<|zx<|zd<|zc Tryz.results21 ?_;refine ⟨h9, _, rfl, st12.done, ?_⟩;refine zy ?_;have q : a ≠ b := by
    rintro rfl;simp_all
   simp [q]
  cases c15
 refine M Y Y Y<|E Y zak Y zbS Y Y<|M Y Y Y<|U (j := 1) st12.sub (hc5.up le10) Y Y Y zcA Y<|M Y Y Y<|zaN (a_f1.up l13) Y zaI Y<|M Y Y Y<|E Y zak Y zbS Y Y<|M Y Y Y<|U (j := 1) st12.sub hc11 Y Y Y zcA Y<|M Y Y Y<|zaN (b_f1.up l13) Y zaI Y<|M Y Y Y<|zcK Y Y Y<|zX (v := (.bool _)) Y Y Y<|Z ?_;refine zG rfl (fun c16 => ?_) (fun c16 => ?_)
 ·refine zf<|zJ Y Y<|Z<|zx<|zd<|zc Tryz.results21 ?_;refine ⟨h9, _, rfl, st12.done, ?_⟩;refine zy ?_;have q : a ≠ b := by
   rintro rfl;simp_all
  simp [q]
 refine zz<|O<|zl<|zf<|zt Y Y<|Z<|zH ?_;refine zay ([4, 5] ++ zbX 23 18) (G := Nat × Heap) (fun ⟨i, h17⟩ => [(5, .int .i64 (i : Int))]) (fun ⟨i, h17⟩ w' => Le h9 h17 ∧ St h w h17 w' [] ∧ (i ≤ a.rules.length) ∧ (a.rules.take i = b.rules.take i)) (fun ⟨i, h17⟩ => a.rules.length - i) ⟨0, h9⟩ ⟨rfl, trivial⟩ ⟨Le.refl _, st12, zba, zba⟩ ?_;rintro ⟨i, h17⟩ _ w20 ⟨le18, st19, hi, he⟩;refine zl<|zf<|zi Y Y<|E Y zak Y zcz Y Y<|U (j := 0) st19.sub (hc5.up (le10.t le18)) Y Y Y zdj Y<|have l21:=l13.t le18;zaN (a_f0.up l21) Y zbf Y<|zaZ Y Y Y<|Z ?_;refine zG rfl (fun c22 => ?_) (fun c22 => ?_)
 ·refine zz<|O<|zl<|zH<|zl<|zbW Tryz.mixed za (Cls h17 _) (Cls.drew st19)<|zab Y zak Y zcz Y Y<|zB Y Y (fun _ hC => (zg (j := 0) hC.sub (hc5.up (le10.t le18)) Y Y Y zdj))<|zdl Y Y ?_;obtain ⟨r, hr⟩ : ∃ y_, (a.rules)[i]? = some y_ := zbE zr;obtain ⟨b23, o24, _, he26, hc25, hr_r⟩ := Sl.elem (a_f0.up l21) hr;obtain ⟨rfl, ls27, ls28⟩ := hr_r;simp only [big] at ls27;simp only [big] at ls28;refine zch he26 Y Y (hk := Y) (hu := zbf) (hz := zcR) Y<|zB Y Y (fun _ hC => (zau hC.sub hc25 Y Tryz.isAgg122 zcR Y))<|zab Y zak Y zcz Y Y<|zB Y Y (fun _ hC => (zg (j := 0) hC.sub (hc11.up le18) Y Y Y zdj))<|zdl Y Y ?_;obtain ⟨r2, hr2⟩ : ∃ y_, (b.rules)[i]? = some y_ := zbE zr;obtain ⟨b29, o30, _, he32, hc31, hr_r2⟩ := Sl.elem (b_f0.up l21) hr2;obtain ⟨rfl, ls33, ls34⟩ := hr_r2;simp only [big] at ls33;simp only [big] at ls34;refine zch he32 Y Y (hk := Y) (hu := zbf) (hz := zcR) Y<|zB Y Y (fun _ hC => (zau hC.sub hc31 Y Tryz.isAgg122 zcR Y))<|zB Y Y (fun _ _ => (r_stneq Y Y Tryz.eqGuardType122 (Tryz.eq_Rule r r2)))<|zbF ?_;rintro w35 ⟨h36, s37⟩;have st38 := st19.call0 s37;refine O ?_;refine zG rfl (fun c39 => ?_) (fun c39 => ?_)
  ·refine zf<|zJ Y Y<|Z<|zx<|zK<|zd<|zd<|zK<|zd<|zc Tryz.results21 ?_;refine ⟨h36, _, rfl, st38.done, ?_⟩;refine zy ?_;have q : a ≠ b := fun e => ne_of_get hr hr2 (by simpa using c39) (by rw [e]);simp [q]
  refine zz<|zQ<|O<|zn<|zi Y Y<|zaQ Y Y zaY Y<|zt Y Y<|Z ?_;refine ⟨⟨i + 1, h36⟩, ⟨rfl, trivial⟩, ?_, ⟨(le18.trans s37.le), st38, ?_, ?_⟩, ?_⟩
  ·exact zax
  ·first | omega | (simp; omega)
  ·exact zig he hr hr2 (by simpa using c39)
  show a.rules.length - ((i + 1)) < a.rules.length - i;omega
 refine zaJ<|zm<|zm<|zap<|O<|zl<|zf<|zt Y Y<|Z<|zH ?_;refine zay ([4, 6] ++ zbX 41 18) (G := Nat × Heap) (fun ⟨k, h40⟩ => [(6, .int .i64 (k : Int))]) (fun ⟨k, h40⟩ w' => Le h17 h40 ∧ St h w h40 w' [] ∧ (k ≤ a.decisions.length) ∧ (a.decisions.take k = b.decisions.take k)) (fun ⟨k, h40⟩ => a.decisions.length - k) ⟨0, h17⟩ ⟨rfl, trivial⟩ ⟨Le.refl _, st19, zba, zba⟩ ?_;rintro ⟨k, h40⟩ _ w43 ⟨le41, st42, hk, hf⟩;refine zl<|zf<|zi Y Y<|E Y zak Y zbS Y Y<|U (j := 1) st42.sub (hc5.up ((le10.t le18).t le41)) Y Y Y zcA Y<|have l44:=l21.t le41;zaN (a_f1.up l44) Y zaI Y<|zaZ Y Y Y<|Z ?_;refine zG rfl (fun c45 => ?_) (fun c45 => ?_)
 ·refine zz<|O<|zl<|zH<|zl<|zbW Tryz.mixed za (Cls h40 _) (Cls.drew st42)<|zab Y zak Y zbS Y Y<|zB Y Y (fun _ hC => (zg (j := 1) hC.sub (hc5.up ((le10.t le18).t le41)) Y Y Y zcA))<|zdl Y Y ?_;obtain ⟨d, hd⟩ : ∃ y_, (a.decisions)[k]? = some y_ := zbE zr;obtain ⟨b46, o47, _, he49, hc48, hr_d⟩ := Sl.elem (a_f1.up l44) hd;obtain ⟨rfl, lu50, ls51, ls52, lu53⟩ := hr_d;simp only [big] at ls51;simp only [big] at ls52;refine zch he49 Y Y (hk := Y) (hu := zaI) (hz := zY) Y<|zB Y Y (fun _ hC => (zau hC.sub hc48 Y zaW zY Y))<|zab Y zak Y zbS Y Y<|zB Y Y (fun _ hC => (zg (j := 1) hC.sub (hc11.up (le18.t le41)) Y Y Y zcA))<|zdl Y Y ?_;obtain ⟨d2, hd2⟩ : ∃ y_, (b.decisions)[k]? = some y_ := zbE zr;obtain ⟨b54, o55, _, he57, hc56, hr_d2⟩ := Sl.elem (b_f1.up l44) hd2;obtain ⟨rfl, lu58, ls59, ls60, lu61⟩ := hr_d2;simp only [big] at ls59;simp only [big] at ls60;refine zch he57 Y Y (hk := Y) (hu := zaI) (hz := zY) Y<|zB Y Y (fun _ hC => (zau hC.sub hc56 Y zaW zY Y))<|zB Y Y (fun _ _ => (r_stneq Y Y zfe (Tryz.eq_Decision d d2)))<|zbF ?_;rintro w62 ⟨h63, s64⟩;have st65 := st42.call0 s64;refine O ?_;refine zG rfl (fun c66 => ?_) (fun c66 => ?_)
  ·refine zf<|zJ Y Y<|Z<|zx<|zK<|zd<|zd<|zK<|zd<|zc Tryz.results21 ?_;refine ⟨h63, _, rfl, st65.done, ?_⟩;refine zy ?_;have q : a ≠ b := fun e => ne_of_get hd hd2 (by simpa using c66) (by rw [e]);simp [q]
  refine zz<|zQ<|O<|zn<|zi Y Y<|zaQ Y Y zaY Y<|zt Y Y<|Z ?_;refine ⟨⟨k + 1, h63⟩, ⟨rfl, trivial⟩, ?_, ⟨(le41.trans s64.le), st65, ?_, ?_⟩, ?_⟩
  ·exact zax
  ·first | omega | (simp; omega)
  ·exact zig hf hd hd2 (by simpa using c66)
  show a.decisions.length - ((k + 1)) < a.decisions.length - k;omega
 refine zaJ<|zm<|zm<|zap<|O<|zf<|zJ Y Y<|Z<|zx<|zc Tryz.results21 ?_;refine ⟨h40, _, rfl, st42.done, ?_⟩;refine zy ?_;have q1 := zjH he zr zr;have q2 := zjH hf zr zr
 rcases a with ⟨a1, a2⟩; rcases b with ⟨b1, b2⟩
 simp_all
end Go.Pk

namespace Go.Pk
open Go Go.RowKit Go.Proofs
theorem c_leaf_open {h : Heap} {w : World} (hs : Sub h w) {t : Text} {t_v0 : Value} (t_f0 : Sl LChapter h t_v0 t.chapters) : Calls Tryz.prog 91 #[.agg #[t_v0]] w (Rets h w (fun h' _ res_ => ∃ u0, res_ = .tuple #[u0, .int .i64 ((if zbm t then 0 else 10))] ∧ Box LText h' (zbm t) t u0)) := by
 refine zP (n := 13) Tryz.func91 Y Y Y<|have st0:=zbn hs;have t_f0_b:=t_f0.le;zf<|zC st0 (cs := [t_v0]) Y Y Y<|fun b1 w2 h3 le4 hc5 st6=>zaf Y Y<|zt Y Y<|Z<|zl<|zf<|zw st6.sub hc5 Y zbb zai Y Y<|zh st6 Y Y Y Tryz.call106 Y (c_leaf_Check st6.sub (t := t) (t_f0.up le4))<|fun r7 w8 h9 le10 st11 q12=> ?_;subst q12;refine zt Y Y<|Z<|zf<|zi Y Y<|zcK Y Y Y<|Z ?_;refine zG rfl (fun c13 => ?_) (fun c13 => ?_)
 ·refine zf<|zi Y Y<|zaf Y Y<|zt Y Y<|Z<|zx<|zd<|zaR Tryz.results91 ?_;refine ⟨h9, _, rfl, st11.done, ?_⟩;refine ⟨_, zdh rfl (zag ?_), Box.nil ?_⟩
  ·simp_all
  simp_all
 refine zz<|O<|zf<|zw st11.sub (hc5.up le10) Y zbb zai Y Y ?_;refine zj rfl rfl (zbs (cs := [t_v0]) (by obtain ⟨_, _, rfl⟩ := Sl.form t_f0; kernel_rfl)) ?_;refine zC st11 (cs := [t_v0]) Y Y Y<|fun b14 w15 h16 le17 hc18 st19=>v_asP Y Y<|zt Y Y<|Z<|zx<|zaR Tryz.results91 ?_;refine ⟨h16, _, rfl, st19.done, ?_⟩;refine ⟨_, zdh rfl (zag ?_), Box.some ?_ hc18 ⟨_, rfl, (t_f0.up ((le4.t le10).t le17))⟩⟩
 ·simp_all
 simp_all
theorem zju {h : Heap} {w : World} (hs : Sub h w) {t_b : Nat} {t : Text} {t_v0 : Value} (t_f0 : Sl LChapter h t_v0 t.chapters) (t_c : Cells h t_b 0 [t_v0]) {p : Place} : Calls Tryz.prog 86 #[.pointer (some ⟨t_b, 0, none⟩), .agg #[.int .i64 p.chapter, .int .i64 p.line, .int .i64 p.word]] w (Rets h w (fun h' _ res_ => ∃ u0, res_ = u0 ∧ Sl LStr h' u0 ((zde t p).getD []))) := by
 refine zP (n := 50) Tryz.func86 Y Y Y<|have st0:=zbn hs;have t_f0_b:=t_f0.le;zf<|zC st0 (cs := [.int .i64 (p.chapter), .int .i64 (p.line), .int .i64 (p.word)]) Y Y Y<|fun b1 w2 h3 le4 hc5 st6=>zco Y Y<|Z<|zl<|zl ?_
 rcases Bool.eq_false_or_eq_true ((!(zcU (([(p.chapter)])) (0) (((t.chapters.length : Int) - 1))))) with g7 | g7
 ·have g7_r := g7;refine zbk (er := ([], [], [], [], 0)) (dsts := [5, 6, 7, 8, 9, 10, 11, 12, 13, 14, 15, 16, 17, 18, 19, 20, 21, 22, 23, 24, 25, 26, 27, 28, 29, 30, 31, 32, 33, 34, 35]) st6 Tryz.mixed<|ze 0 [] Y za za Y Y (fun hD wD τD hL hS hO  => (r_mvP Y))<|ze 1 [0] Y za za Y Y (fun hD wD τD hL hS hO _ _ => (zdC Y))<|ze 2 [0] Y za za Y Y (fun hD wD τD hL hS hO _ _ => (zI Y Tryz.underlying207 Y zai Y))<|ze 3 [0] Y za za Y Y (fun hD wD τD hL hS hO _ _ => (zI Y zaO Y zbw Y))<|ze 4 [0] Y za za Y Y (fun hD wD τD hL hS hO _ _ => (zg (j := 0) (hL.sub hS) (t_c.up le4) Y Y Y zbV))<|ze 5 [0] Y za za Y Y (fun hD wD τD hL hS hO _ _ => (r_len (t_f0.up le4) Y zaB))<|ze 6 [0] Y za za Y Y (fun hD wD τD hL hS hO _ _ => (r_sub Y Y zaY))<|ze 7 [] Y za za Y Y (fun hD wD τD hL hS hO  => (zI Y zar Y zq Y))<|ze 8 [0] Y za za Y Y (fun hD wD τD hL hS hO _ _ => (zg (j := 0) (hL.sub hS) hc5 Y Y Y zF)) ?_;refine zaq 9 (.res (fun h' res_ => Sl LInt h' res_ ([(p.chapter)])) (fun _ _ _ hl f => f.up hl)) [0] rfl za za ?_ ?_
  ·intro hD wD τD hL hS hO _ _;have st8 := St.start hS;refine zah (L := LInt) (xs := [(p.chapter)]) (cs := [.int .i64 (p.chapter)]) st8 (Enc.cons (L := LInt) (vs := [.int .i64 (p.chapter)]) (x := (p.chapter)) (h := hD) (Y) Enc.nil) Y Y Y zk Tryz.info3 Y Y Y za<|fun v9 w10 h13 le14 f11 st12=> ?_;exact zp ⟨_, _, rfl, st12, _, rfl, f11⟩
  refine zaq 10 (.det (.bool (zcU (([(p.chapter)])) (0) (((t.chapters.length : Int) - 1))))) [3, 0] rfl za za ?_ ?_
  ·intro hD wD τD hL hS hO _ _ gv9_0 gf9_0;have st15 := St.start hS;refine zh st15 Y Y Y zga Y (zfU st15.sub _ _ gf9_0)<|fun r16 w17 h18 le19 st20 q21=> ?_;subst q21;exact zp ⟨_, _, rfl, st20, (), rfl, trivial⟩
  refine ze 11 [0] Y za za Y Y (fun hD wD τD hL hS hO _ _ => (Run.lit (r_not Y) g7_r))<|ze 12 [0, 1] Y za za Y Y (fun hD wD τD hL hS hO _ _ _ _ => (zfr Y))<|zaP 13 [0] Y za za Y Y Y Y (fun hD wD τD hL hS hO _ _ => Y)<|zaP 14 [0, 1] Y za za Y Y Y Y (fun hD wD τD hL hS hO _ _ _ _ => Y)<|zaP 15 [0, 2] Y za za Y Y Y Y (fun hD wD τD hL hS hO _ _ _ _ => Y)<|zaP 16 [0, 3] Y za za Y Y Y Y (fun hD wD τD hL hS hO _ _ _ _ => Y)<|zaP 17 [0, 4] Y za za Y Y Y Y (fun hD wD τD hL hS hO _ _ _ _ => Y)<|zaP 18 [5] Y za za Y Y Y Y (fun hD wD τD hL hS hO _ _ => Y)<|zaP 19 [0, 6] Y za za Y Y Y Y (fun hD wD τD hL hS hO _ _ _ _ => Y)<|zaP 20 [2, 0, 7] Y za za Y Y Y Y (fun hD wD τD hL hS hO _ _ _ _ _ _ => Y)<|zaP 21 [0, 8] Y za za Y Y Y Y (fun hD wD τD hL hS hO _ _ _ _ => Y)<|zaP 22 [0, 9] Y za za Y Y Y Y (fun hD wD τD hL hS hO _ _ _ _ => Y)<|zaP 23 [0, 10] Y za za Y Y Y Y (fun hD wD τD hL hS hO _ _ _ _ => Y)<|zaP 24 [0, 11] Y za za Y Y Y Y (fun hD wD τD hL hS hO _ _ _ _ => Y)<|zaP 25 [12] Y za za Y Y Y Y (fun hD wD τD hL hS hO _ _ => Y)<|zaP 26 [0, 13] Y za za Y Y Y Y (fun hD wD τD hL hS hO _ _ _ _ => Y)<|zaP 27 [0, 14] Y za za Y Y Y Y (fun hD wD τD hL hS hO _ _ _ _ => Y)<|zaP 28 [3, 0, 15] Y za za Y Y Y Y (fun hD wD τD hL hS hO _ _ _ _ _ _ => Y)<|zaP 29 [0, 16] Y za za Y Y Y Y (fun hD wD τD hL hS hO _ _ _ _ => Y)<|ze 30 [17, 0] Y za za Y Y (fun hD wD τD hL hS hO _ _ _ _ => (zie (v := (.bool _)) Y Y))<|zcc Y Y Y Y Y Y ⟨za, Y, za, Y, za, Y, Y, za, zcM⟩<|fun hE22 w23 _ le24 st25 _ _ _ _ _ _ _ _ _ _ _ _ _ _ _ _ _ _ gv9_0x26 gf9_0x26 _ _ _ _ _ _ _ _ _ _ _ _ _ _ _ _ _ _ _ _ _ _ _ _ _ _ _ _ _ _ _ _ _ _ _ _ _ _ _ _ _ _=>AllDeps.fin Y<|O ?_;refine zaj rfl (fun c27 => ?_) (fun c27 => ?_)
  ·refine zf<|zco Y Y<|Z<|zx<|zd<|zc Tryz.results86 ?_;refine ⟨hE22, _, rfl, st25.done, ?_⟩;refine ⟨_, rfl, Sl.to (Sl.nil _ _) ?_⟩;have q : zde t p = none := line_none1 (by
    have q := g7;simp [zcU, inB] at q;omega)
   simp [q]
  cases c27
 have g7_r := g7;have q1 : 0 ≤ p.chapter ∧ p.chapter < t.chapters.length := by
  have q := g7;simp [zcU, inB] at q;omega
 obtain ⟨c, hc⟩ : ∃ y_, (t.chapters)[p.chapter.toNat]? = some y_ := zbE zr;obtain ⟨b28, o29, _, he31, hc30, hr_c⟩ := Sl.elem (t_f0.up le4) hc;obtain ⟨v32, rfl, f33⟩ := hr_c;have f33_b := f33.le;refine zbk (er := ([], [], [], [], 0)) (dsts := [5, 6, 7, 8, 9, 10, 11, 12, 13, 14, 15, 16, 17, 18, 19, 20, 21, 22, 23, 24, 25, 26, 27, 28, 29, 30, 31, 32, 33, 34, 35]) st6 Tryz.mixed<|ze 0 [] Y za za Y Y (fun hD wD τD hL hS hO  => (r_mvP Y))<|ze 1 [0] Y za za Y Y (fun hD wD τD hL hS hO _ _ => (zdC Y))<|ze 2 [0] Y za za Y Y (fun hD wD τD hL hS hO _ _ => (zI Y Tryz.underlying207 Y zai Y))<|ze 3 [0] Y za za Y Y (fun hD wD τD hL hS hO _ _ => (zI Y zaO Y zbw Y))<|ze 4 [0] Y za za Y Y (fun hD wD τD hL hS hO _ _ => (zg (j := 0) (hL.sub hS) (t_c.up le4) Y Y Y zbV))<|ze 5 [0] Y za za Y Y (fun hD wD τD hL hS hO _ _ => (r_len (t_f0.up le4) Y zaB))<|ze 6 [0] Y za za Y Y (fun hD wD τD hL hS hO _ _ => (r_sub Y Y zaY))<|ze 7 [] Y za za Y Y (fun hD wD τD hL hS hO  => (zI Y zar Y zq Y))<|ze 8 [0] Y za za Y Y (fun hD wD τD hL hS hO _ _ => (zg (j := 0) (hL.sub hS) hc5 Y Y Y zF)) ?_;refine zaq 9 (.res (fun h' res_ => Sl LInt h' res_ ([(p.chapter)])) (fun _ _ _ hl f => f.up hl)) [0] rfl za za ?_ ?_
 ·intro hD wD τD hL hS hO _ _;have st34 := St.start hS;refine zah (L := LInt) (xs := [(p.chapter)]) (cs := [.int .i64 (p.chapter)]) st34 (Enc.cons (L := LInt) (vs := [.int .i64 (p.chapter)]) (x := (p.chapter)) (h := hD) (Y) Enc.nil) Y Y Y zk Tryz.info3 Y Y Y za<|fun v35 w36 h39 le40 f37 st38=> ?_;exact zp ⟨_, _, rfl, st38, _, rfl, f37⟩
 refine zaq 10 (.det (.bool (zcU (([(p.chapter)])) (0) (((t.chapters.length : Int) - 1))))) [3, 0] rfl za za ?_ ?_
 ·intro hD wD τD hL hS hO _ _ gv9_0 gf9_0;have st41 := St.start hS;refine zh st41 Y Y Y zga Y (zfU st41.sub _ _ gf9_0)<|fun r42 w43 h44 le45 st46 q47=> ?_;subst q47;exact zp ⟨_, _, rfl, st46, (), rfl, trivial⟩
 refine ze 11 [0] Y za za Y Y (fun hD wD τD hL hS hO _ _ => (Run.lit (r_not Y) g7_r))<|ze 12 [0, 1] Y za za Y Y (fun hD wD τD hL hS hO _ _ _ _ => (zfr Y))<|zbc 13 [0] Y za za Y Y Y (fun hD wD τD hL hS hO _ _ => ⟨rfl, (r_mvP Y)⟩)<|zbc 14 [0, 1] Y za za Y Y Y (fun hD wD τD hL hS hO _ _ _ _ => ⟨rfl, (zdC Y)⟩)<|zbc 15 [0, 2] Y za za Y Y Y (fun hD wD τD hL hS hO _ _ _ _ => ⟨rfl, (zI Y Tryz.underlying207 Y zai Y)⟩)<|zbc 16 [0, 3] Y za za Y Y Y (fun hD wD τD hL hS hO _ _ _ _ => ⟨rfl, (zI Y zaO Y zbw Y)⟩)<|zbc 17 [0, 4] Y za za Y Y Y (fun hD wD τD hL hS hO _ _ _ _ => ⟨rfl, (zg (j := 0) (hL.sub hS) (t_c.up le4) Y Y Y zbV)⟩)<|zbc 18 [5] Y za za Y Y Y (fun hD wD τD hL hS hO _ _ => ⟨rfl, (zI Y zar Y zq Y)⟩)<|zbc 19 [0, 6] Y za za Y Y Y (fun hD wD τD hL hS hO _ _ _ _ => ⟨rfl, (zg (j := 0) (hL.sub hS) hc5 Y Y Y zF)⟩) ?_;refine zbc 20 [2, 0, 7] rfl za za rfl rfl rfl (fun hD wD τD hL hS hO _ _ _ _ _ _ => ⟨rfl, (zav he31 rfl rfl (hk := (show _ = ((p.chapter.toNat : Nat) : Int) by omega)) (hu := zaB) (hz := zbq))⟩) ?_;refine zbc 21 [0, 8] Y za za Y Y Y (fun hD wD τD hL hS hO _ _ _ _ => ⟨rfl, (zI Y zaE Y zbH Y)⟩)<|zbc 22 [0, 9] Y za za Y Y Y (fun hD wD τD hL hS hO _ _ _ _ => ⟨rfl, (zg (j := 1) (hL.sub hS) hc30 Y Y Y zcj)⟩)<|zbc 23 [0, 10] Y za za Y Y Y (fun hD wD τD hL hS hO _ _ _ _ => ⟨rfl, (r_len f33 Y zaL)⟩)<|zbc 24 [0, 11] Y za za Y Y Y (fun hD wD τD hL hS hO _ _ _ _ => ⟨rfl, (r_sub Y Y zaY)⟩)<|zbc 25 [12] Y za za Y Y Y (fun hD wD τD hL hS hO _ _ => ⟨rfl, (zI Y zar Y zq Y)⟩)<|zbc 26 [0, 13] Y za za Y Y Y (fun hD wD τD hL hS hO _ _ _ _ => ⟨rfl, (zg (j := 1) (hL.sub hS) hc5 Y Y Y zF)⟩) ?_;refine zaq 27 (.res (fun h' res_ => Sl LInt h' res_ ([(p.line)])) (fun _ _ _ hl f => f.up hl)) [0, 14] rfl za za ?_ ?_
 ·intro hD wD τD hL hS hO _ _ _ _;have st48 := St.start hS;refine M Y Y Y<|zah (L := LInt) (xs := [(p.line)]) (cs := [.int .i64 (p.line)]) st48 (Enc.cons (L := LInt) (vs := [.int .i64 (p.line)]) (x := (p.line)) (h := hD) (Y) Enc.nil) Y Y Y zk Tryz.info3 Y Y Y za<|fun v49 w50 h53 le54 f51 st52=> ?_;exact zp ⟨_, _, rfl, st52, _, rfl, f51⟩
 refine zaq 28 (.det (.bool (zcU (([(p.line)])) (0) (((c.lines.length : Int) - 1))))) [3, 0, 15] rfl za za ?_ ?_
 ·intro hD wD τD hL hS hO _ _ gv27_0 gf27_0 _ _;have st55 := St.start hS;refine M Y Y Y<|zh st55 Y Y Y zga Y (zfU st55.sub _ _ gf27_0)<|fun r56 w57 h58 le59 st60 q61=> ?_;subst q61;exact zp ⟨_, _, rfl, st60, (), rfl, trivial⟩
 refine zbc 29 [0, 16] Y za za Y Y Y (fun hD wD τD hL hS hO _ _ _ _ => ⟨rfl, (r_not Y)⟩)<|ze 30 [17, 0] Y za za Y Y (fun hD wD τD hL hS hO _ _ _ _ => (zgt (v := (.bool _)) Y Y))<|zcc Y Y Y Y Y Y ⟨za, Y, za, Y, za, Y, Y, za, zcM⟩<|fun hE62 w63 _ le64 st65 _ _ _ _ _ _ _ _ _ _ _ _ _ _ _ _ _ _ gv9_0x66 gf9_0x66 _ _ _ _ _ _ _ _ _ _ _ _ _ _ _ _ _ _ _ _ _ _ _ _ _ _ _ _ _ _ _ _ _ _ gv27_0x66 gf27_0x66 _ _ _ _ _ _=>AllDeps.fin Y<|O ?_;refine zaj rfl (fun c67 => ?_) (fun c67 => ?_)
 ·refine zf<|zco Y Y<|Z<|zx<|zd<|zc Tryz.results86 ?_;refine ⟨hE62, _, rfl, st65.done, ?_⟩;refine ⟨_, rfl, Sl.to (Sl.nil _ _) ?_⟩;have q : zde t p = none := line_none2 hc (by
   have q := c67;simp [zcU, inB] at q;omega)
  simp [q]
 refine zz<|O<|zl ?_;have q1 : 0 ≤ p.chapter ∧ p.chapter < t.chapters.length ∧ 0 ≤ p.line ∧ p.line < c.lines.length := by
  have q := g7;have q0 := c67;simp [zcU, inB] at q q0;omega
 refine zbW Tryz.mixed za (Cls hE62 _) (Cls.drew st65)<|u_mvP Y Y<|zB Y Y (fun _ _ => (zdC Y))<|zab Y Tryz.underlying207 Y zai Y Y<|zab Y zaO Y zbw Y Y<|have l68:=le4.t le64;zB Y Y (fun _ hC => (zg (j := 0) hC.sub (t_c.up l68) Y Y Y zbV))<|zab Y zar Y zq Y Y<|zB Y Y (fun _ hC => (zg (j := 0) hC.sub (hc5.up le64) Y Y Y zF)) ?_;refine zB rfl rfl (fun _ _ => (zav he31 rfl rfl (hk := (show _ = ((p.chapter.toNat : Nat) : Int) by omega)) (hu := zaB) (hz := zbq))) ?_;refine zab Y zaE Y zbH Y Y<|zB Y Y (fun _ hC => (zg (j := 1) hC.sub (hc30.up le64) Y Y Y zcj))<|zab Y zar Y zq Y Y<|zB Y Y (fun _ hC => (zg (j := 1) hC.sub (hc5.up le64) Y Y Y zF)) ?_;obtain ⟨ln, hln⟩ : ∃ y_, (c.lines)[p.line.toNat]? = some y_ := zbE zr;obtain ⟨b69, o70, _, he72, hc71, hr_ln⟩ := Sl.elem (f33.up le64) hln;obtain ⟨v73, rfl, f74⟩ := hr_ln;have f74_b := f74.le;refine zB rfl rfl (fun _ _ => (zav he72 rfl rfl (hk := (show _ = ((p.line.toNat : Nat) : Int) by omega)) (hu := zaL) (hz := zdK))) ?_;refine zB Y Y (fun _ hC => (zg (j := 0) hC.sub hc71 Y Y Y zek))<|u_assign (v := v73) Y Y<|zbF ?_;rintro w75 ⟨h76, s77⟩;have st78 := st65.call0 s77;refine O<|zx<|zc Tryz.results86 ?_;refine ⟨h76, _, rfl, st78.done, ?_⟩;refine ⟨_, rfl, Sl.to (f74.up s77.le) ?_⟩;rw [line_some hc q1.1 hln q1.2.2.1]; rfl
theorem c_leaf_book_has {h : Heap} {w : World} (hs : Sub h w) {t_b : Nat} {t : Text} {t_v0 : Value} (t_f0 : Sl LChapter h t_v0 t.chapters) (t_c : Cells h t_b 0 [t_v0]) {p : Place} : Calls Tryz.prog 124 #[.pointer (some ⟨t_b, 0, none⟩), .agg #[.int .i64 p.chapter, .int .i64 p.line, .int .i64 p.word]] w (Rets h w (fun _ _ res_ => res_ = .bool (zbu t p))) := by
 refine zP (n := 14) Tryz.func124 Y Y Y<|have st0:=zbn hs;have t_f0_b:=t_f0.le;zf<|zC st0 (cs := [.int .i64 (p.chapter), .int .i64 (p.line), .int .i64 (p.word)]) Y Y Y<|fun b1 w2 h3 le4 hc5 st6=>zJ Y Y<|Z<|zl<|have qb:=line_le t_f0 p;zbk (er := ([], [], [], [], 0)) (dsts := [5, 6, 7, 8, 9, 10, 11, 12, 13, 4]) st6 Tryz.mixed<|ze 0 [] Y za za Y Y (fun hD wD τD hL hS hO  => (r_mvP Y))<|ze 1 [] Y za za Y Y (fun hD wD τD hL hS hO  => (zau (hL.sub hS) hc5 Y zaD zO Y)) ?_;refine zaq 2 (.res (fun h' res_ => Sl LStr h' res_ ((zde (t) (p)).getD [])) (fun _ _ _ hl f => f.up hl)) [1, 0] rfl za za ?_ ?_
 ·intro hD wD τD hL hS hO _ _ _ _;have st7 := St.start hS;refine zh st7 Y Y Y Tryz.call86 Y (zju st7.sub (t := t) (t_f0.up (le4.trans hL)) (t_c.up (le4.trans hL)) (p := p))<|fun r8 w9 h10 le11 st12 q13=> ?_;obtain ⟨v14, e16, f15⟩ := q13;rw [← e16] at f15;have f15_b := f15.le;exact zp ⟨_, _, rfl, st12, _, rfl, f15⟩
 refine zaq 3 (.det (.int .i64 (((zde (t) (p)).getD []).length : Int))) [0] rfl za za ?_ ?_
 ·intro hD wD τD hL hS hO gv2_0 gf2_0;have st17 := St.start hS;refine zaN gf2_0 Y zV Y ?_;exact zp ⟨_, _, rfl, st17, (), rfl, trivial⟩
 refine ze 4 [0] Y za za Y Y (fun hD wD τD hL hS hO _ _ => (r_sub Y Y zaY))<|ze 5 [] Y za za Y Y (fun hD wD τD hL hS hO  => (zI Y zar Y zq Y))<|ze 6 [0] Y za za Y Y (fun hD wD τD hL hS hO _ _ => (zg (j := 2) (hL.sub hS) hc5 Y Y Y zF)) ?_;refine zaq 7 (.res (fun h' res_ => Sl LInt h' res_ ([(p.word)])) (fun _ _ _ hl f => f.up hl)) [0] rfl za za ?_ ?_
 ·intro hD wD τD hL hS hO _ _;have st18 := St.start hS;refine zah (L := LInt) (xs := [(p.word)]) (cs := [.int .i64 (p.word)]) st18 (Enc.cons (L := LInt) (vs := [.int .i64 (p.word)]) (x := (p.word)) (h := hD) (Y) Enc.nil) Y Y Y zk Tryz.info3 Y Y Y za<|fun v19 w20 h23 le24 f21 st22=> ?_;exact zp ⟨_, _, rfl, st22, _, rfl, f21⟩
 refine zaq 8 (.det (.bool (zcU (([(p.word)])) (0) (((((zde (t) (p)).getD []).length : Int) - 1))))) [3, 0, 5] rfl za za ?_ ?_
 ·intro hD wD τD hL hS hO _ _ gv7_0 gf7_0 gv2_0 gf2_0;have st25 := St.start hS;refine zh st25 Y Y Y zga Y (zfU st25.sub _ _ gf7_0)<|fun r26 w27 h28 le29 st30 q31=> ?_;subst q31;exact zp ⟨_, _, rfl, st30, (), rfl, trivial⟩
 refine ze 9 [8, 7, 6, 5, 4, 3, 2, 1, 0] Y za za Y Y (fun hD wD τD hL hS hO _ _ _ _ gv2_0 gf2_0 _ _ _ _ _ _ _ _ gv7_0 gf7_0 _ _ => (r_asB Y))<|zcc Y Y Y Y Y Y ⟨za, Y, za, Y, za, Y, Y, za, zcM⟩<|fun hE32 w33 _ le34 st35 _ _ _ _ gv2_0x36 gf2_0x36 _ _ _ _ _ _ _ _ gv7_0x36 gf7_0x36 _ _ _ _=>AllDeps.fin Y<|O<|zx<|zc Tryz.results124 ?_;refine ⟨hE32, _, rfl, st35.done, ?_⟩;refine zy ?_;rw [place_eq];cases hq : zde t p with
 | none => simp [zcU, inB]; omega
 | some l => simp [zcU]
theorem c_leaf_placed {h : Heap} {w : World} (hs : Sub h w) {t : Text} {t_v0 : Value} (t_f0 : Sl LChapter h t_v0 t.chapters) {p : Place} : Calls Tryz.prog 85 #[.agg #[t_v0], .agg #[.int .i64 p.chapter, .int .i64 p.line, .int .i64 p.word]] w (Rets h w (fun h' _ res_ => ∃ u0, res_ = .tuple #[u0, .int .i64 ((if zbm t && zbu t p then 0 else if zbm t then 12 else 10))] ∧ Box LText h' (zbm t && zbu t p) t u0)) := by
 refine zP (n := 21) Tryz.func85 Y Y Y<|have st0:=zbn hs;have t_f0_b:=t_f0.le;zf<|zC st0 (cs := [t_v0]) Y Y Y<|fun b1 w2 h3 le4 hc5 st6=>zC st6 (cs := [.int .i64 (p.chapter), .int .i64 (p.line), .int .i64 (p.word)]) Y Y Y<|fun b7 w8 h9 le10 hc11 st12=>zaf Y Y<|zt Y Y<|Z<|zf<|zw st12.sub (hc5.up le10) Y zbb zai Y Y<|have l13:=le4.t le10;zh st12 Y Y Y Tryz.call91 Y (c_leaf_open st12.sub (t := t) (t_f0.up l13))<|fun r14 w15 h16 le17 st18 q19=> ?_
 rcases Bool.eq_false_or_eq_true (zbm (t)) with hb20 | hb20
 ·simp only [hb20, if_true, if_false, Bool.false_eq_true, reduceIte] at q19;obtain ⟨v21, rfl, f22⟩ := q19;obtain ⟨b23, vs24, rfl, hc25, hr26⟩ := f22;obtain ⟨v27, rfl, f28⟩ := hr26;have f28_b := f28.le;refine zcB Y Y<|zM (v := (.pointer (some _))) Y Y Y<|zM (v := (.int _ _)) Y Y Y<|v_asP Y Y<|zt Y Y<|Z<|zl<|zf<|zi Y Y<|zcK Y Y Y<|Z ?_;refine zaj rfl (fun c29 => ?_) (fun c29 => ?_)
  ·exact absurd c29 (by decide)
  refine zz<|O<|zl<|zf<|v_mvP Y Y<|zw st18.sub (hc11.up le17) Y zaD zO Y Y<|zh st18 Y Y Y Tryz.call124 Y (c_leaf_book_has st18.sub (t := (t)) f28 hc25 (p := p))<|fun r30 w31 h32 le33 st34 q35=> ?_;subst q35;refine zbA Y Y<|Z ?_;refine zaj rfl (fun c36 => ?_) (fun c36 => ?_)
  ·refine zf<|zaf Y Y<|zt Y Y<|Z<|zx<|zd<|zaR Tryz.results85 ?_;refine ⟨h32, _, rfl, st34.done, ?_⟩;refine ⟨_, zdh rfl (zag ?_), Box.nil ?_⟩
   ·simp_all
   simp_all
  refine zz<|O<|zf<|v_mvP Y Y<|v_asP Y Y<|zt Y Y<|Z<|zx<|zaR Tryz.results85 ?_;refine ⟨h32, _, rfl, st34.done, ?_⟩;refine ⟨_, zdh rfl (zag ?_), Box.some ?_ (hc25.up le33) ⟨_, rfl, (f28.up le33)⟩⟩
  ·simp_all
  simp_all
 simp only [hb20, if_true, if_false, Bool.false_eq_true, reduceIte] at q19;obtain ⟨v37, rfl, f38⟩ := q19;subst f38;refine zcB Y Y<|zM (v := (.pointer none)) Y Y Y<|zM (v := (.int _ _)) Y Y Y<|zaf Y Y<|zt Y Y<|Z<|zl<|zf<|zi Y Y<|zcK Y Y Y<|Z ?_;refine zaj rfl (fun c39 => ?_) (fun c39 => ?_)
 ·refine zf<|zi Y Y<|zaf Y Y<|zt Y Y<|Z<|zx<|zd<|zaR Tryz.results85 ?_;refine ⟨h16, _, rfl, st18.done, ?_⟩;refine ⟨_, zdh rfl (zag ?_), Box.nil ?_⟩
  ·simp_all
  simp_all
 exact absurd c39 (by decide)
theorem zhA {h : Heap} {w : World} (hs : Sub h w) {t : Text} {t_v0 : Value} (t_f0 : Sl LChapter h t_v0 t.chapters) {p : Place} : Calls Tryz.prog 37 #[.agg #[t_v0], .agg #[.int .i64 p.chapter, .int .i64 p.line, .int .i64 p.word]] w (Rets h w (fun _ _ res_ => res_ = .tuple #[zN ((if zbm t then (zhn t p).getD [] else [])), .int .i64 ((if zbm t && zbu t p then 0 else if zbm t then 12 else 10))])) := by
 refine zP (n := 24) Tryz.func37 Y Y Y<|have st0:=zbn hs;have t_f0_b:=t_f0.le;zf<|zC st0 (cs := [t_v0]) Y Y Y<|fun b1 w2 h3 le4 hc5 st6=>zC st6 (cs := [.int .i64 (p.chapter), .int .i64 (p.line), .int .i64 (p.word)]) Y Y Y<|fun b7 w8 h9 le10 hc11 st12=>zgc Y Y<|zt Y Y<|Z<|zf<|zw st12.sub (hc5.up le10) Y zbb zai Y Y<|zw st12.sub hc11 Y zaD zO Y Y<|have l13:=le4.t le10;zh st12 Y Y Y Tryz.call85 Y (c_leaf_placed st12.sub (t := t) (t_f0.up l13) (p := p))<|fun r14 w15 h16 le17 st18 q19=> ?_
 rcases Bool.eq_false_or_eq_true (zbm (t) && zbu (t) (p)) with hb20 | hb20
 ·simp only [hb20, if_true, if_false, Bool.false_eq_true, reduceIte] at q19;obtain ⟨v21, rfl, f22⟩ := q19;obtain ⟨b23, vs24, rfl, hc25, hr26⟩ := f22;obtain ⟨v27, rfl, f28⟩ := hr26;have f28_b := f28.le;refine zcB Y Y<|zM (v := (.pointer (some _))) Y Y Y<|zM (v := (.int _ _)) Y Y Y<|v_asP Y Y<|zt Y Y<|Z<|zl<|zf<|zi Y Y<|zcK Y Y Y<|Z ?_;refine zaj rfl (fun c29 => ?_) (fun c29 => ?_)
  ·exact absurd c29 (by decide)
  refine zz<|O<|zl ?_;have q1 : zbu t p = true := by simp_all
  have q2 := place_eq t p;have q3 : 0 ≤ p.word ∧ p.word < (((zde t p).getD []).length : Int) := by
   rw [q1] at q2;simp [inB] at q2;omega
  obtain ⟨wd, hwd⟩ : ∃ y_, (((zde ((t)) (p)).getD []))[p.word.toNat]? = some y_ := zbE zr;refine zbk (er := ([], [], [], [], 0)) (dsts := [17, 18, 19, 20, 21, 22, 23, 4, 5]) st18 Tryz.mixed<|ze 0 [] Y za za Y Y (fun hD wD τD hL hS hO  => (r_mvP Y))<|ze 1 [] Y za za Y Y (fun hD wD τD hL hS hO  => (zau (hL.sub hS) (hc11.up le17) Y zaD zO Y)) ?_;refine zaq 2 (.res (fun h' res_ => Sl LStr h' res_ ((zde ((t)) (p)).getD [])) (fun _ _ _ hl f => f.up hl)) [1, 0] rfl za za ?_ ?_
  ·intro hD wD τD hL hS hO _ _ _ _;have st30 := St.start hS;refine zh st30 Y Y Y Tryz.call86 Y (zju st30.sub (t := (t)) (f28.up hL) (hc25.up hL) (p := p))<|fun r31 w32 h33 le34 st35 q36=> ?_;obtain ⟨v37, e39, f38⟩ := q36;rw [← e39] at f38;have f38_b := f38.le;exact zp ⟨_, _, rfl, st35, _, rfl, f38⟩
  refine ze 3 [] Y za za Y Y (fun hD wD τD hL hS hO  => (zI Y zar Y zq Y))<|ze 4 [0] Y za za Y Y (fun hD wD τD hL hS hO _ _ => (zg (j := 2) (hL.sub hS) (hc11.up le17) Y Y Y zF)) ?_;refine zaq 5 (.res (fun h' res_ => ∃ b o, res_ = .pointer (some ⟨b, o, none⟩) ∧ Cells h' b o [zN wd]) (by rintro _ _ _ hl ⟨b, o, e, c⟩; exact ⟨b, o, e, c.up hl⟩)) [2, 0] rfl za za ?_ ?_
  ·intro hD wD τD hL hS hO gv2_0 gf2_0 _ _;have st40 := St.start hS;obtain ⟨b_, o_, _, he_, hc_, hr_⟩ := Sl.elem gf2_0 hwd;obtain ⟨rfl, ls41⟩ := hr_;simp only [big] at ls41;refine zj rfl rfl (zav he_ rfl rfl (hk := (show _ = ((p.word.toNat : Nat) : Int) by omega)) (hu := zV) (hz := zao)) ?_;exact zp ⟨_, _, rfl, st40, _, rfl, _, _, rfl, hc_⟩
  refine zaq 6 (.det (zN wd)) [0] rfl za za ?_ ?_
  ·intro hD wD τD hL hS hO gv5_ gf5_;obtain ⟨gb5, go5, rfl, gc5⟩ := gf5_;have st42 := St.start hS;refine U (j := 0) hS gc5 Y Y Y zaC Y ?_;exact zp ⟨_, _, rfl, st42, (), rfl, trivial⟩
  refine ze 7 [6, 5, 4, 3, 2, 1, 0] Y za za Y Y (fun hD wD τD hL hS hO _ _ _ _ gv2_0 gf2_0 _ _ _ _ gv5_ gf5_ _ _ => (r_asS Y))<|ze 8 [7, 6, 5, 4, 3, 2, 1, 0] Y za za Y Y (fun hD wD τD hL hS hO _ _ _ _ gv2_0 gf2_0 _ _ _ _ gv5_ gf5_ _ _ _ _ => (r_asI Y))<|zcc Y Y Y Y Y Y ⟨za, Y, za, Y, za, Y, Y, za, zcM⟩<|fun hE43 w44 _ le45 st46 _ _ _ _ gv2_0x47 gf2_0x47 _ _ _ _ gv5_x47 gf5_x47 _ _ _ _ _ _=> ?_;obtain ⟨gb5x47, go5x47, rfl, gc5x47⟩ := gf5_x47;refine AllDeps.fin Y<|O<|zx<|zaR Tryz.results37 ?_;refine ⟨hE43, _, rfl, st46.done, ?_⟩;refine zdh (str_eq ?_) (zag ?_)
  all_goals have qq : zbm t = true ∧ zbu t p = true := by simp_all
  ·simp [qq.1, word_some qq.2 hwd]
  simp [qq.1, qq.2]
 simp only [hb20, if_true, if_false, Bool.false_eq_true, reduceIte] at q19;obtain ⟨v48, rfl, f49⟩ := q19;subst f49;refine zcB Y Y<|zM (v := (.pointer none)) Y Y Y<|zM (v := (.int _ _)) Y Y Y<|zaf Y Y<|zt Y Y<|Z<|zl<|zf<|zi Y Y<|zcK Y Y Y<|Z ?_;refine zG rfl (fun c50 => ?_) (fun c50 => ?_)
 ·refine zf<|zi Y Y<|zgc Y Y<|zt Y Y<|Z<|zx<|zd<|zaR Tryz.results37 ?_;refine ⟨h16, _, rfl, st18.done, ?_⟩;refine zdh (str_eq ?_) (zag ?_)
  all_goals have qq : zbm t = true → zbu t p = false := by simp_all
  ·cases q0 : zbm t
   ·rfl
   ·simp [word_none (qq q0)]
  cases q0 : zbm t
  ·rfl
  simp [qq q0]
 exfalso;revert c50;split <;> simp
end Go.Pk

namespace Go.Pk
open Go Go.RowKit Go.Proofs
theorem c_strings_indexFunc {s : Str} (hlen : s.length ≤ 281474976710656) {g : FuncId} {caps : List Value} (p : Int → Bool) (hp : ∀ x : Int, 128 ≤ x → p x = true)
  (hf : ∀ (x : Int) h w, Sub h w → Calls Tryz.prog g (.int .i32 x :: caps).toArray w (Rets h w fun _ _ r => r = .bool (p x)))
  (hg : ∀ a w, (callFunc g a).run Tryz.prog w = .ok (.enter g a) w) {h : Heap} {w : World} (hs : Sub h w) :
  Calls Tryz.prog 211 #[zN s, .func (.func g) #[] caps.toArray, .bool true] w (Rets h w fun _ _ r => ∃ k : Int, r = .int .i64 k ∧ (0 ≤ k ↔ (s.any fun c => p (c.toNat : Int)) = true)) := by
 refine zP (n := 21) Tryz.func211 Y Y Y<|have st0:=zbn hs;zf<|zt Y Y<|Z<|zl<|zf<|zcw Y Y<|OpsL.rangeS st0 Y zaA Y<|fun b w1 st1=>Z<|zH ?_;refine zay ([7, 8] ++ zbX 11 10 ++ [6]) (G := Nat × Heap) (fun ⟨k, _⟩ => []) (fun ⟨k, h'⟩ w' => Le h h' ∧ St h w h' w' [[(b, .stringIter ⟨s.toArray⟩ k)]] ∧ k ≤ s.length ∧ ∀ j c, j < k → s[j]? = some c → p (c.toNat : Int) = false) (fun ⟨k, _⟩ => s.length - k) ⟨0, h⟩ trivial ⟨Le.refl _, st1, by omega, by intros; omega⟩ ?_;rintro ⟨k, h2⟩ _ w2 ⟨le2, st2, hk, hall⟩
 rcases Nat.lt_or_ge k s.length with hlt | hge
 ·obtain ⟨c, hc⟩ : ∃ c, s[k]? = some c := ⟨_, List.getElem?_eq_getElem hlt⟩;refine zf<|OpsL.nextS st2 (k := 0) Y Y hc Y<|fun w3 st3=> ?_;generalize hR : Utf8.decode ⟨s.toArray⟩ k = R at st3;refine zM (v := .bool _) Y Y Y<|Z<|zl ?_;refine zaj rfl (fun c1 => ?_) (fun c1 => ?_)
  ·refine zz ?_;refine O<|zH<|zf<|zM (v := .int _ _) Y Y Y<|zM (v := .int _ _) Y Y Y<|zt Y Y<|zt Y Y<|Z<|zf<|zhg Y Y<|zi Y Y ?_;refine zaw rfl rfl (zbL (fs := []) (cs := caps) rfl rfl hg rfl) ((hf (R.1 : Int) h2 w3 st3.sub).mono ?_);rintro e w4 ⟨h4, r4, rfl, s4, rfl⟩;refine ⟨_, rfl, ?_⟩;have st4 := st3.call0 s4;refine zaa Y Y<|zj Y Y (r_beql Y Y zbt)<|Z ?_;refine zaj rfl (fun c2 => ?_) (fun c2 => ?_)
   ·have c3 : p (R.1 : Int) = true := by simpa using c2
    refine zf<|zi Y Y<|zt Y Y<|Z<|zx ?_
    repeat (first | refine zK ?_ | refine zd ?_)
    refine zc Tryz.results211 ?_;refine ⟨h4, _, rfl, st4.done, (k : Int), rfl, ⟨fun _ => ?_, fun _ => by omega⟩⟩;rw [List.any_eq_true];refine ⟨c, List.mem_of_getElem? hc, ?_⟩
    by_cases hl : c.toNat < 128
    ·rw [decode_low hc hl] at hR; subst hR; exact c3
    ·exact hp _ zr
   ·have c3 : p (R.1 : Int) = false := by simpa using c2
    have hl : c.toNat < 128 := by
     rcases Nat.lt_or_ge c.toNat 128 with h5 | h5
     ·exact h5
     ·have q := decode_high hc zr;rw [hR] at q;rw [hp _ zr] at c3; cases c3
    rw [decode_low hc hl] at hR;subst hR;refine zz<|zQ ?_;refine ⟨⟨k + 1, h4⟩, trivial, ?_, ⟨le2.trans s4.le, st4, by omega, ?_⟩, ?_⟩
    ·exact zax
    ·intro j d hj hd
     rcases Nat.lt_or_ge j k with h3 | h3
     ·exact hall j d h3 hd
     ·obtain rfl : j = k := by omega
      rw [hc] at hd; cases hd;exact c3
    ·show s.length - (k + 1) < s.length - k;omega
  ·cases c1
 ·refine zl ?_;refine zn<|OpsL.nextE st2 (k := 0) Y Y hge Y<|zM (v := .bool _) Y Y Y<|Z<|zl ?_;refine zaj rfl (fun c1 => ?_) (fun c1 => ?_)
  ·cases c1
  ·refine zaJ ?_;refine zm<|zm<|zap<|O<|zf<|zt Y Y<|Z<|zx<|zc Tryz.results211 ?_;refine ⟨h2, _, rfl, st2.done, _, rfl, ⟨fun q => absurd q (by decide), fun q => ?_⟩⟩;rw [List.any_eq_true] at q;obtain ⟨c, hc, hpc⟩ := q;obtain ⟨j, hj⟩ := List.mem_iff_getElem?.1 hc;have hjl := (List.getElem?_eq_some_iff.1 hj).1;rw [hall j c zr hj] at hpc; cases hpc
theorem c_strings_IndexFunc {s : Str} (hlen : s.length ≤ 281474976710656) {g : FuncId} {caps : List Value} (p : Int → Bool) (hp : ∀ x : Int, 128 ≤ x → p x = true)
  (hf : ∀ (x : Int) h w, Sub h w → Calls Tryz.prog g (.int .i32 x :: caps).toArray w (Rets h w fun _ _ r => r = .bool (p x)))
  (hg : ∀ a w, (callFunc g a).run Tryz.prog w = .ok (.enter g a) w) {h : Heap} {w : World} (hs : Sub h w) :
  Calls Tryz.prog 198 #[zN s, .func (.func g) #[] caps.toArray] w (Rets h w fun _ _ r => ∃ k : Int, r = .int .i64 k ∧ (0 ≤ k ↔ (s.any fun c => p (c.toNat : Int)) = true)) := by
 refine zP (n := 8) Tryz.func198 Y Y Y<|have st0:=zbn hs;zf<|zt Y Y<|Z<|zf<|zcw Y Y<|zhg Y Y<|zh st0 Y Y Y Tryz.call211 Y (c_strings_indexFunc hlen p hp hf hg st0.sub) ?_;rintro v w1 h1 le1 st1 ⟨k, rfl, hk⟩;refine zt Y Y<|Z<|zx<|zc Tryz.results198 ?_;exact ⟨h1, _, rfl, st1.done, k, rfl, hk⟩
theorem zjK {s : Str} (hlen : s.length ≤ 281474976710656) {g : FuncId} {caps : List Value} (p : Int → Bool) (hp : ∀ x : Int, 128 ≤ x → p x = true)
  (hf : ∀ (x : Int) h w, Sub h w → Calls Tryz.prog g (.int .i32 x :: caps).toArray w (Rets h w fun _ _ r => r = .bool (p x)))
  (hg : ∀ a w, (callFunc g a).run Tryz.prog w = .ok (.enter g a) w) {h : Heap} {w : World} (hs : Sub h w) :
  Calls Tryz.prog 155 #[zN s, .func (.func g) #[] caps.toArray] w (Rets h w fun _ _ r => r = .bool (s.any fun c => p (c.toNat : Int))) := by
 refine zP (n := 9) Tryz.func155 Y Y Y<|have st0:=zbn hs;zf<|zJ Y Y<|Z<|zf<|zcw Y Y<|zhg Y Y<|zh st0 Y Y Y Tryz.call198 Y (c_strings_IndexFunc hlen p hp hf hg st0.sub) ?_;rintro v w1 h1 le1 st1 ⟨k, rfl, hk⟩;refine ziL Y Y Y<|zJ Y Y<|Z<|zx<|zc Tryz.results155 ?_;refine ⟨h1, _, rfl, st1.done, zy ?_⟩;rw [Bool.eq_iff_iff, decide_eq_true_eq];exact hk
end Go.Pk

namespace Go.Pk
open Go Go.RowKit Go.Proofs
theorem c_stem_letters_1 {h : Heap} {w : World} (hs : Sub h w) (c : Int) : Calls Tryz.prog 156 #[.int .i32 c] w (Rets h w (fun _ _ res_ => res_ = .bool ((decide (c < 97) || decide (122 < c))))) := by
 refine zP (n := 9) Tryz.func156 Y Y Y<|have st0:=zbn hs;zf<|zJ Y Y<|Z<|zf<|zi Y Y<|zaZ Y Y Y<|zaa Y Y ?_;refine zal (d := 5) rfl (fun g1 => ?_) (fun g1 => ?_)
 ·refine zS 2 Y<|zW (v := (.bool _)) Y Y Y<|zJ Y Y<|Z<|zx<|zc Tryz.results156 ?_;refine ⟨h, _, rfl, st0.done, ?_⟩;refine zy ?_
  first | (simp_all; done) | (simp_all; omega)
 refine M Y Y Y<|zi Y Y<|M Y Y Y<|zdO Y Y Y<|zX (v := (.bool _)) Y Y Y<|zJ Y Y<|Z<|zx<|zc Tryz.results156 ?_;refine ⟨h, _, rfl, st0.done, ?_⟩;refine zy ?_
 first | (simp_all; done) | (simp_all; omega)
theorem zfJ {h : Heap} {w : World} (hs : Sub h w) (s : Str) (s_le : s.length ≤ 281474976710656) (lo : Int) : Calls Tryz.prog 109 #[zN s, .int .i64 lo] w (Rets h w (fun _ _ res_ => res_ = .bool (zcE s lo))) := by
 refine zP (n := 15) Tryz.func109 Y Y Y<|have st0:=zbn hs;zf<|zJ Y Y<|Z<|zf<|zi Y Y<|zcw Y Y<|zcH Y zaA Y<|zah (L := LInt) (xs := [(s.length : Int)]) (cs := [.int .i64 (s.length : Int)]) st0 (Enc.cons (L := LInt) (vs := [.int .i64 (s.length : Int)]) (x := (s.length : Int)) (h := h) (Y) Enc.nil) Y Y Y zk Tryz.info3 Y Y Y za<|fun v1 w2 h5 le6 f3 st4=>zh st4 Y Y Y Tryz.call110 Y (zjr st4.sub _ _ f3)<|fun r7 w8 h9 le10 st11 q12=> ?_;subst q12;refine zaa Y Y ?_;refine zaF (d := 10) rfl (fun g13 => ?_) (fun g13 => ?_)
 ·refine M Y Y Y<|zcw Y Y<|M Y Y Y ?_;refine zh st11 rfl rfl rfl Tryz.call155 rfl (zjK (s := s) zbi (fun x_ : Int => (decide ((x_) < 97) || decide (122 < (x_)))) (by intro x_ hx_; simp; omega) (fun x_ h_ w_ hs_ => c_stem_letters_1 hs_ x_) Tryz.call156 st11.sub) ?_;intro r14 w15 h16 le17 st18 q19;subst q19;refine M Y Y Y<|zbA Y Y<|zW (v := (.bool _)) Y Y Y<|zJ Y Y<|Z<|zx<|zc Tryz.results109 ?_;refine ⟨h16, _, rfl, st18.done, ?_⟩;refine zy ?_;rw [letters_eq];simp_all [zcU]
 refine zS 3 Y<|zX (v := (.bool _)) Y Y Y<|zJ Y Y<|Z<|zx<|zc Tryz.results109 ?_;refine ⟨h9, _, rfl, st11.done, ?_⟩;refine zy ?_;rw [letters_eq];simp_all [zcU]
theorem zii {h : Heap} {w : World} (hs : Sub h w) {hd : Head} (hd_l1 : hd.stem.length ≤ 281474976710656) (hd_l2 : 0 ≤ hd.mark ∧ hd.mark ≤ 255) : Calls Tryz.prog 131 #[.agg #[zN hd.stem, .int .u8 hd.mark]] w (Rets h w (fun _ _ res_ => res_ = .bool (zdY hd))) := by
 refine zP (n := 11) Tryz.func131 Y Y Y<|have st0:=zbn hs;zf<|zC st0 (cs := [zN (hd.stem), .int .u8 (hd.mark)]) Y Y Y<|fun b1 w2 h3 le4 hc5 st6=>zJ Y Y<|Z<|zf<|E Y zbo Y zao Y Y<|U (j := 0) st6.sub hc5 Y Y Y zaC Y<|zh st6 Y Y Y Tryz.call109 Y (zfJ st6.sub _ zbi _)<|fun r7 w8 h9 le10 st11 q12=> ?_;subst q12;refine zaa Y Y ?_;refine zaF (d := 6) rfl (fun g13 => ?_) (fun g13 => ?_)
 ·refine M Y Y Y<|E Y zbo Y zbx Y Y<|M Y Y Y<|U (j := 1) st11.sub (hc5.up le10) Y Y Y zcb Y<|M Y Y Y<|zj Y Y (r_leq Y Y)<|zW (v := (.bool _)) Y Y Y<|zJ Y Y<|Z<|zx<|zc Tryz.results131 ?_;refine ⟨h9, _, rfl, st11.done, ?_⟩;refine zy ?_;rw [head_eq _ zr];simp_all
 refine zS 3 Y<|zX (v := (.bool _)) Y Y Y<|zJ Y Y<|Z<|zx<|zc Tryz.results131 ?_;refine ⟨h9, _, rfl, st11.done, ?_⟩;refine zy ?_;rw [head_eq _ zr];simp_all
end Go.Pk
