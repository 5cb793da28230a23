/- A PART OF THE PROOF: contracts of functions, each walked once (much of it printed by a program of the author's own). -/
import Derived.Test.YtjdbapoodefncaaGreatDoorT5
import Derived.Test.YtjdbapoodefncaaGreatDoorT2
set_option linter.unusedSimpArgs false
set_option linter.unusedVariables false
set_option maxRecDepth 4000
namespace Go.Pk
open Go Go.RowKit Go.Proofs
theorem zct {h : Heap} {w : World} (hs : Sub h w) (n : Int) (lo : Int) (hi : Int) : Calls Tryz.prog 181 #[.int .i64 n, .int .i64 lo, .int .i64 hi] w (Rets h w (fun _ _ res_ => res_ = .bool (inB n lo hi))) := by
 refine zR (n := 15) Tryz.func181 X X X<|have st0:=zbg hs;zd<|zF X X<|Y<|zd<|zh X X<|zh X X<|zig X X X<|zX X X ?_;refine zae (d := 10) rfl (fun g1 => ?_) (fun g1 => ?_)
 ·refine Z X X X<|zh X X<|Z X X X<|zh X X<|Z X X X<|zf X X (r_leq X X)<|zP (v := (.bool _)) X X X<|zF X X<|Y<|zx<|zb Tryz.results181 ?_;refine ⟨h, _, rfl, st0.done, ?_⟩;refine zy ?_;simp [inB, *]
 refine zM 3 X<|zO (v := (.bool _)) X X X<|zF X X<|Y<|zx<|zb Tryz.results181 ?_;refine ⟨h, _, rfl, st0.done, ?_⟩;refine zy ?_;simp [inB, *]
theorem zdH {h : Heap} {w : World} (hs : Sub h w) (n : Int) (lo : Int) (hi : Int) : Calls Tryz.prog 127 #[.int .i64 n, .int .i64 lo, .int .i64 hi] w (Rets h w (fun _ _ res_ => res_ = .bool (inB n lo hi))) := by
 refine zR (n := 15) Tryz.func127 X X X<|have st0:=zbg hs;zd<|zF X X<|Y<|zd<|zh X X<|zh X X<|zig X X X<|zX X X ?_;refine zae (d := 10) rfl (fun g1 => ?_) (fun g1 => ?_)
 ·refine Z X X X<|zh X X<|Z X X X<|zh X X<|Z X X X<|zf X X (r_leq X X)<|zP (v := (.bool _)) X X X<|zF X X<|Y<|zx<|zb Tryz.results127 ?_;refine ⟨h, _, rfl, st0.done, ?_⟩;refine zy ?_;simp [inB, *]
 refine zM 3 X<|zO (v := (.bool _)) X X X<|zF X X<|Y<|zx<|zb Tryz.results127 ?_;refine ⟨h, _, rfl, st0.done, ?_⟩;refine zy ?_;simp [inB, *]
theorem zeM {h : Heap} {w : World} (hs : Sub h w) (s : Str) (s_le : s.length ≤ 281474976710656) : Calls Tryz.prog 129 #[zN s] w (Rets h w (fun _ _ res_ => res_ = .bool (zdK s))) := by
 refine zR (n := 23) Tryz.func129 X X X<|have st0:=zbg hs;zd<|zF X X<|Y<|zo<|zd<|zw X X<|Y<|zK ?_;refine zaB (zcb 2 18) (G := Nat × Heap) (fun ⟨k, h1⟩ => [(3, .int .i64 (k : Int))]) (fun ⟨k, h1⟩ w' => Le h h1 ∧ St h w h1 w' [] ∧ (k ≤ s.length) ∧ ((s.take k).all isL = true)) (fun ⟨k, h1⟩ => s.length - k) ⟨0, h⟩ ⟨rfl, trivial⟩ ⟨Le.refl _, st0, zba, zba⟩ ?_;rintro ⟨k, h1⟩ _ w4 ⟨le2, st3, hk, ht⟩;refine zo<|zd<|zh X X<|zch X X<|zcv X zat X<|zaZ X X X<|Y ?_;refine zG rfl (fun c5 => ?_) (fun c5 => ?_)
 ·refine zz<|E<|zo<|zK<|zd<|zch X X<|zh X X ?_;obtain ⟨y6, hy6⟩ : ∃ y_, (s)[k]? = some y_ := zbD zr;refine zf X X (ziD X X (hk := X) (hb := hy6) (hu := zat))<|zaZ X X X<|zX X X ?_;refine zae (d := 14) rfl (fun g7 => ?_) (fun g7 => ?_)
  ·refine zM 4 X<|zP (v := (.bool _)) X X X<|Y ?_;refine zai rfl (fun c8 => ?_) (fun c8 => ?_)
   ·refine zd<|zF X X<|Y<|zx<|zD<|zc<|zc<|zD<|zc<|zb Tryz.results129 ?_;refine ⟨h1, _, rfl, st3.done, ?_⟩;refine zy ?_;have hn := zcI (p := isL) (by assumption) (by simp [isL]; omega);simp [zdK, zcJ, hn]
   cases c8
  refine Z X X X<|zch X X<|Z X X X<|zh X X<|Z X X X<|zf X X (ziD X X (hk := X) (hb := hy6) (hu := zat))<|Z X X X<|zdF X X X<|zO (v := (.bool _)) X X X<|Y ?_;refine zG rfl (fun c9 => ?_) (fun c9 => ?_)
  ·refine zd<|zF X X<|Y<|zx<|zD<|zc<|zc<|zD<|zc<|zb Tryz.results129 ?_;refine ⟨h1, _, rfl, st3.done, ?_⟩;refine zy ?_;have hn := zcI (p := isL) (by assumption) (by simp [isL]; omega);simp [zdK, zcJ, hn]
  refine zz<|zQ<|E<|zn<|zh X X<|zaJ X X zaR X<|zw X X<|Y ?_;refine ⟨⟨k + 1, h1⟩, ⟨rfl, trivial⟩, ?_, ⟨le2, st3, ?_, ?_⟩, ?_⟩
  ·exact zas
  ·first | omega | (simp; omega)
  ·exact zcr ht (by assumption) (by simp [isL, *]; omega)
  show s.length - ((k + 1)) < s.length - k;omega
 refine zaL<|zq<|zq<|zap<|E<|zd<|zch X X<|zcv X zat X<|zg st3 X X X zgz X (zct st3.sub _ _ _)<|fun r10 w11 h12 le13 st14 q15=> ?_;subst q15;refine zF X X<|Y<|zx<|zb Tryz.results129 ?_;refine ⟨h12, _, rfl, st14.done, ?_⟩;refine zy ?_;have hn := zdd ht zr;simp [zdK, zcJ, hn]
theorem zgW {h : Heap} {w : World} (hs : Sub h w) (s : Str) (s_le : s.length ≤ 281474976710656) (lo : Int) : Calls Tryz.prog 126 #[zN s, .int .i64 lo] w (Rets h w (fun _ _ res_ => res_ = .bool (zcJ s lo))) := by
 refine zR (n := 26) Tryz.func126 X X X<|have st0:=zbg hs;zd<|zF X X<|Y<|zo<|zd<|zw X X<|Y<|zK ?_;refine zaB (zcb 4 18) (G := Nat × Heap) (fun ⟨k, h1⟩ => [(5, .int .i64 (k : Int))]) (fun ⟨k, h1⟩ w' => Le h h1 ∧ St h w h1 w' [] ∧ (k ≤ s.length) ∧ ((s.take k).all isL = true)) (fun ⟨k, h1⟩ => s.length - k) ⟨0, h⟩ ⟨rfl, trivial⟩ ⟨Le.refl _, st0, zba, zba⟩ ?_;rintro ⟨k, h1⟩ _ w4 ⟨le2, st3, hk, ht⟩;refine zo<|zd<|zh X X<|zch X X<|zcv X zat X<|zaZ X X X<|Y ?_;refine zG rfl (fun c5 => ?_) (fun c5 => ?_)
 ·refine zz<|E<|zo<|zK<|zd<|zch X X<|zh X X ?_;obtain ⟨y6, hy6⟩ : ∃ y_, (s)[k]? = some y_ := zbD zr;refine zf X X (ziD X X (hk := X) (hb := hy6) (hu := zat))<|zaZ X X X<|zX X X ?_;refine zae (d := 16) rfl (fun g7 => ?_) (fun g7 => ?_)
  ·refine zM 4 X<|zP (v := (.bool _)) X X X<|Y ?_;refine zai rfl (fun c8 => ?_) (fun c8 => ?_)
   ·refine zd<|zF X X<|Y<|zx<|zD<|zc<|zc<|zD<|zc<|zb Tryz.results126 ?_;refine ⟨h1, _, rfl, st3.done, ?_⟩;refine zy ?_;have hn := zcI (p := isL) (by assumption) (by simp [isL]; omega);simp [zdK, zcJ, hn]
   cases c8
  refine Z X X X<|zch X X<|Z X X X<|zh X X<|Z X X X<|zf X X (ziD X X (hk := X) (hb := hy6) (hu := zat))<|Z X X X<|zdF X X X<|zO (v := (.bool _)) X X X<|Y ?_;refine zG rfl (fun c9 => ?_) (fun c9 => ?_)
  ·refine zd<|zF X X<|Y<|zx<|zD<|zc<|zc<|zD<|zc<|zb Tryz.results126 ?_;refine ⟨h1, _, rfl, st3.done, ?_⟩;refine zy ?_;have hn := zcI (p := isL) (by assumption) (by simp [isL]; omega);simp [zdK, zcJ, hn]
  refine zz<|zQ<|E<|zn<|zh X X<|zaJ X X zaR X<|zw X X<|Y ?_;refine ⟨⟨k + 1, h1⟩, ⟨rfl, trivial⟩, ?_, ⟨le2, st3, ?_, ?_⟩, ?_⟩
  ·exact zas
  ·first | omega | (simp; omega)
  ·exact zcr ht (by assumption) (by simp [isL, *]; omega)
  show s.length - ((k + 1)) < s.length - k;omega
 refine zaL<|zq<|zq<|zap<|E<|zd<|zch X X<|zcv X zat X<|zh X X<|zg st3 X X X Tryz.call127 X (zdH st3.sub _ _ _)<|fun r10 w11 h12 le13 st14 q15=> ?_;subst q15;refine zF X X<|Y<|zx<|zb Tryz.results126 ?_;refine ⟨h12, _, rfl, st14.done, ?_⟩;refine zy ?_;have hn := zdd ht zr;simp [zdK, zcJ, hn]
theorem c_postilref04_Rule {h : Heap} {w : World} (hs : Sub h w) {r : Rule} (r_l1 : r.cut.length ≤ 281474976710656) (r_l2 : r.put.length ≤ 281474976710656) : Calls Tryz.prog 87 #[.agg #[zN r.cut, zN r.put, .int .i64 r.least]] w (Rets h w (fun _ _ res_ => res_ = .bool (zhy r))) := by
 refine zR (n := 23) Tryz.func87 X X X<|have st0:=zbg hs;zd<|zH st0 (cs := [zN (r.cut), zN (r.put), .int .i64 (r.least)]) X X X<|fun b1 w2 h3 le4 hc5 st6=>zF X X<|Y<|zd<|U X zbs X zal X X<|M (j := 0) st6.sub hc5 X X X zav X<|zg st6 X X X Tryz.call126 X (zgW st6.sub _ zbj _)<|fun r7 w8 h9 le10 st11 q12=> ?_;subst q12;refine zX X X ?_;refine zaA (d := 6) rfl (fun g13 => ?_) (fun g13 => ?_)
 ·refine Z X X X<|U X zbs X zal X X<|Z X X X<|M (j := 1) st11.sub (hc5.up le10) X X X zav X<|Z X X X<|zg st11 X X X Tryz.call126 X (zgW st11.sub _ zbj _)<|fun r14 w15 h16 le17 st18 q19=> ?_;subst q19;refine zP (v := (.bool _)) X X X<|zX X X ?_;refine zaA (d := 11) rfl (fun g20 => ?_) (fun g20 => ?_)
  ·refine Z X X X<|U X zbs X zal X X<|Z X X X<|M (j := 0) st18.sub (hc5.up (le10.t le17)) X X X zav X<|Z X X X<|U X zbs X zal X X<|Z X X X<|M (j := 1) st18.sub (hc5.up (le10.t le17)) X X X zav X<|Z X X X<|zf X X (r_sneq X X)<|zP (v := (.bool _)) X X X<|zX X X ?_;refine zae (d := 18) rfl (fun g21 => ?_) (fun g21 => ?_)
   ·refine Z X X X<|U X zbs X zm X X<|Z X X X<|M (j := 2) st18.sub (hc5.up (le10.t le17)) X X X zB X<|Z X X X<|zg st18 X X X Tryz.call127 X (zdH st18.sub _ _ _)<|fun r22 w23 h24 le25 st26 q27=> ?_;subst q27;refine zP (v := (.bool _)) X X X<|zF X X<|Y<|zx<|zb Tryz.results87 ?_;refine ⟨h24, _, rfl, st26.done, ?_⟩;refine zy ?_;simp_all [zhy]
   refine zM 3 X<|zO (v := (.bool _)) X X X<|zF X X<|Y<|zx<|zb Tryz.results87 ?_;refine ⟨h16, _, rfl, st18.done, ?_⟩;refine zy ?_;simp_all [zhy]
  refine zM 5 X<|zO (v := (.bool _)) X X X<|zX X X<|zM 3 X<|zO (v := (.bool _)) X X X<|zF X X<|Y<|zx<|zb Tryz.results87 ?_;refine ⟨h16, _, rfl, st18.done, ?_⟩;refine zy ?_;simp_all [zhy]
 refine zM 3 X<|zO (v := (.bool _)) X X X<|zX X X<|zM 5 X<|zO (v := (.bool _)) X X X<|zX X X<|zM 3 X<|zO (v := (.bool _)) X X X<|zF X X<|Y<|zx<|zb Tryz.results87 ?_;refine ⟨h9, _, rfl, st11.done, ?_⟩;refine zy ?_;simp_all [zhy]
theorem zeL {h : Heap} {w : World} (hs : Sub h w) {hd : Head} (hd_l1 : hd.stem.length ≤ 281474976710656) (hd_l2 : 0 ≤ hd.mark ∧ hd.mark ≤ 255) : Calls Tryz.prog 130 #[.agg #[zN hd.stem, .int .u8 hd.mark]] w (Rets h w (fun _ _ res_ => res_ = .bool (zee hd))) := by
 refine zR (n := 12) Tryz.func130 X X X<|have st0:=zbg hs;zd<|zH st0 (cs := [zN (hd.stem), .int .u8 (hd.mark)]) X X X<|fun b1 w2 h3 le4 hc5 st6=>zF X X<|Y<|zd<|U X zbf X zal X X<|M (j := 0) st6.sub hc5 X X X zav X<|zg st6 X X X Tryz.call129 X (zeM st6.sub _ zbj)<|fun r7 w8 h9 le10 st11 q12=> ?_;subst q12;refine zX X X ?_;refine zaA (d := 6) rfl (fun g13 => ?_) (fun g13 => ?_)
 ·refine Z X X X<|U X zbf X zbl X X<|Z X X X<|M (j := 1) st11.sub (hc5.up le10) X X X zbQ X<|Z X X X ?_;refine zf rfl rfl (zhh rfl rfl zbY (IntWalk.i64_in _ zr)) ?_;refine Z X X X<|zg st11 X X X Tryz.call127 X (zdH st11.sub _ _ _)<|fun r14 w15 h16 le17 st18 q19=> ?_;subst q19;refine zP (v := (.bool _)) X X X<|zF X X<|Y<|zx<|zb Tryz.results130 ?_;refine ⟨h16, _, rfl, st18.done, ?_⟩;refine zy ?_;simp_all [zee]
 refine zM 4 X<|zO (v := (.bool _)) X X X<|zF X X<|Y<|zx<|zb Tryz.results130 ?_;refine ⟨h9, _, rfl, st11.done, ?_⟩;refine zy ?_;simp_all [zee]
theorem c_postilref01_Before {h : Heap} {w : World} (hs : Sub h w) {a : Place} {b : Place} : Calls Tryz.prog 164 #[.agg #[.int .i64 a.chapter, .int .i64 a.line, .int .i64 a.word], .agg #[.int .i64 b.chapter, .int .i64 b.line, .int .i64 b.word]] w (Rets h w (fun _ _ res_ => res_ = .bool (zdi a b))) := by
 refine zR (n := 30) Tryz.func164 X X X<|have st0:=zbg hs;zd<|zH st0 (cs := [.int .i64 (a.chapter), .int .i64 (a.line), .int .i64 (a.word)]) X X X<|fun b1 w2 h3 le4 hc5 st6=>zH st6 (cs := [.int .i64 (b.chapter), .int .i64 (b.line), .int .i64 (b.word)]) X X X<|fun b7 w8 h9 le10 hc11 st12=>zF X X<|Y<|zo<|zd<|U X zan X zm X X<|M (j := 0) st12.sub (hc5.up le10) X X X zB X<|U X zan X zm X X<|M (j := 0) st12.sub hc11 X X X zB X<|zcs X X X<|Y ?_;refine zG rfl (fun c13 => ?_) (fun c13 => ?_)
 ·refine zd<|U X zan X zm X X<|M (j := 0) st12.sub (hc5.up le10) X X X zB X<|U X zan X zm X X<|M (j := 0) st12.sub hc11 X X X zB X<|zaZ X X X<|zF X X<|Y<|zx<|zc<|zb Tryz.results164 ?_;refine ⟨h9, _, rfl, st12.done, ?_⟩;refine zy ?_;simp_all [zdi]
 refine zz<|E<|zo<|zd<|U X zan X zm X X<|M (j := 1) st12.sub (hc5.up le10) X X X zB X<|U X zan X zm X X<|M (j := 1) st12.sub hc11 X X X zB X<|zcs X X X<|Y ?_;refine zG rfl (fun c14 => ?_) (fun c14 => ?_)
 ·refine zd<|U X zan X zm X X<|M (j := 1) st12.sub (hc5.up le10) X X X zB X<|U X zan X zm X X<|M (j := 1) st12.sub hc11 X X X zB X<|zaZ X X X<|zF X X<|Y<|zx<|zc<|zb Tryz.results164 ?_;refine ⟨h9, _, rfl, st12.done, ?_⟩;refine zy ?_;simp_all [zdi]
 refine zz<|E<|zd<|U X zan X zm X X<|M (j := 2) st12.sub (hc5.up le10) X X X zB X<|U X zan X zm X X<|M (j := 2) st12.sub hc11 X X X zB X<|zaZ X X X<|zF X X<|Y<|zx<|zb Tryz.results164 ?_;refine ⟨h9, _, rfl, st12.done, ?_⟩;refine zy ?_;simp_all [zdi]
end Go.Pk

namespace Go.Pk
open Go Go.RowKit Go.Proofs
theorem c_postilref01_Text {h : Heap} {w : World} (hs : Sub h w) {t : Text} {t_v0 : Value} (t_f0 : Sl LChapter h t_v0 t.chapters) : Calls Tryz.prog 200 #[.agg #[t_v0]] w (Rets h w (fun _ _ res_ => res_ = .bool (zbc t))) := by
 refine zR (n := 85) Tryz.func200 X X X<|have st0:=zbg hs;have t_f0_b:=t_f0.le;zd<|zH st0 (cs := [t_v0]) X X X<|fun b1 w2 h3 le4 hc5 st6=>zF X X<|Y<|zo<|zd<|U X zbb X zbV X X<|M (j := 0) st6.sub hc5 X X X zcp X<|zaP (t_f0.up le4) X zaO X<|zg st6 X X X zgz X (zct st6.sub _ _ _)<|fun r7 w8 h9 le10 st11 q12=> ?_;subst q12;refine zbu X X<|Y ?_;refine zai rfl (fun c13 => ?_) (fun c13 => ?_)
 ·refine zd<|zF X X<|Y<|zx<|zc<|zb zeO ?_;refine ⟨h9, _, rfl, st11.done, ?_⟩;refine zy ?_;simp_all [zbc]
 refine zz<|E<|zo<|zd<|zw X X<|Y<|zK ?_;refine zaB (zcb 2 6 ++ zcb 13 72) (G := Nat × Heap) (fun ⟨i, h14⟩ => [(3, .int .i64 (i : Int))]) (fun ⟨i, h14⟩ w' => Le h9 h14 ∧ St h w h14 w' [] ∧ (i ≤ t.chapters.length) ∧ ((t.chapters.take i).all zbB = true) ∧ (((t.chapters.take i).map (·.id)).Nodup)) (fun ⟨i, h14⟩ => t.chapters.length - i) ⟨0, h9⟩ ⟨rfl, trivial⟩ ⟨Le.refl _, st11, zba, zba, zba⟩ ?_;rintro ⟨i, h14⟩ _ w17 ⟨le15, st16, hi, hA, hN⟩;refine zo<|zd<|zh X X<|U X zbb X zbV X X<|M (j := 0) st16.sub (hc5.up (le10.t le15)) X X X zcp X<|have l18:=(le4.t le10).t le15;zaP (t_f0.up l18) X zaO X<|zaZ X X X<|Y ?_;refine zG rfl (fun c19 => ?_) (fun c19 => ?_)
 ·refine zz<|E<|zo<|zK<|zd<|U X zbb X zbV X X<|M (j := 0) st16.sub (hc5.up (le10.t le15)) X X X zcp X<|zh X X ?_;obtain ⟨c, hc⟩ : ∃ y_, (t.chapters)[i]? = some y_ := zbD zr;obtain ⟨b20, o21, _, he23, hc22, hr_c⟩ := Sl.elem (t_f0.up l18) hc;obtain ⟨v24, rfl, f25⟩ := hr_c;have f25_b := f25.le;refine zW he23 X X (hk := X) (hu := zaO) (hz := zbC) X<|zt st16.sub hc22 X Tryz.isAgg107 zbC X X<|zT st16 Tryz.zeroValue107 X X<|fun b26 w27 st28=>zJ st28 (k := 0) X X X (za X (za f25.one zao)) zbC X X X<|fun w29 st30=> ?_;obtain ⟨h31, le32, hb33, st35⟩ := st30.freeze (k := 0) rfl;have hc34 := Cells.of hb33;refine Y<|zo<|zd<|U X zaM X zm X X<|M (j := 0) st35.sub hc34 X X X zB X<|zg st35 X X X zgz X (zct st35.sub _ _ _)<|fun r36 w37 h38 le39 st40 q41=> ?_;subst q41;refine zbu X X<|zX X X ?_;refine zaA (d := 29) rfl (fun g42 => ?_) (fun g42 => ?_)
  ·refine zM 5 X<|zP (v := (.bool _)) X X X<|Y ?_;refine zai rfl (fun c43 => ?_) (fun c43 => ?_)
   ·refine zd<|zF X X<|Y<|zx<|zc<|zD<|zc<|zc<|zD<|zc<|zb zeO ?_;refine ⟨h38, _, rfl, st40.done, ?_⟩;refine zy ?_;have q0 : zbB c = false := by simp_all [zbB]
    have q := zcI (p := zbB) hc q0;simp [zbc, q]
   cases c43
  refine Z X X X<|U X zaM X zce X X<|Z X X X<|M (j := 1) st40.sub (hc34.up le39) X X X zcB X<|Z X X X<|zaP (f25.up (le32.t le39)) X zaQ X<|Z X X X<|zg st40 X X X zgz X (zct st40.sub _ _ _)<|fun r44 w45 h46 le47 st48 q49=> ?_;subst q49;refine Z X X X<|zbu X X<|zO (v := (.bool _)) X X X<|Y ?_;refine zai rfl (fun c50 => ?_) (fun c50 => ?_)
  ·refine zd<|zF X X<|Y<|zx<|zc<|zD<|zc<|zc<|zD<|zc<|zb zeO ?_;refine ⟨h46, _, rfl, st48.done, ?_⟩;refine zy ?_;have q0 : zbB c = false := by simp_all [zbB]
   have q := zcI (p := zbB) hc q0;simp [zbc, q]
  refine zz<|E<|zo<|zd<|zw X X<|Y<|zK ?_;refine zaB ([2, 5] ++ zcb 36 14) (G := Nat × Heap) (fun ⟨k1, h51⟩ => [(5, .int .i64 (k1 : Int))]) (fun ⟨k1, h51⟩ w' => Le h46 h51 ∧ St h w h51 w' [[]] ∧ (k1 ≤ i) ∧ (∀ j c2, j < k1 → t.chapters[j]? = some c2 → c2.id ≠ c.id)) (fun ⟨k1, h51⟩ => i - k1) ⟨0, h46⟩ ⟨rfl, trivial⟩ ⟨Le.refl _, st48, zba, (by intro j _ hj; omega)⟩ ?_;rintro ⟨k1, h51⟩ _ w54 ⟨le52, st53, hk1, hd⟩;refine zo<|zd<|zh X X<|zh X X<|zaZ X X X<|Y ?_;refine zG rfl (fun c55 => ?_) (fun c55 => ?_)
  ·refine zz<|E<|zo<|zK<|zo<|zcd Tryz.mixed O (Cls h51 _) (Cls.drew st53)<|zac X zbb X zbV X X<|have l56:=((((le10.t le15).t le32).t le39).t le47).t le52;zC X X (fun _ hC => (zi (j := 0) hC.sub (hc5.up l56) X X X zcp))<|zdr X X ?_;obtain ⟨cc, hcc⟩ : ∃ y_, (t.chapters)[k1]? = some y_ := zbD zr;have l61 := (((l18.t le32).t le39).t le47).t le52;obtain ⟨b57, o58, _, he60, hc59, hr_cc⟩ := Sl.elem (t_f0.up l61) hcc;obtain ⟨v62, rfl, f63⟩ := hr_cc;have f63_b := f63.le;refine zca he60 X X (hk := X) (hu := zaO) (hz := zbC) X<|zac X zaM X zm X X<|zC X X (fun _ hC => (zi (j := 0) hC.sub hc59 X X X zB))<|zac X zaM X zm X X<|zC X X (fun _ hC => (zi (j := 0) hC.sub (hc34.up ((le39.t le47).t le52)) X X X zB))<|u_eql X X X<|zbv ?_;rintro w64 ⟨h65, s66⟩;have st67 := st53.call0 s66;refine E ?_;refine zG rfl (fun c68 => ?_) (fun c68 => ?_)
   ·refine zd<|zF X X<|Y<|zx<|zD<|zc<|zc<|zD<|zc<|zD<|zc<|zc<|zD<|zc<|zb zeO ?_;refine ⟨h65, _, rfl, st67.done, ?_⟩;refine zy ?_;have q := zjc (f := (·.id)) hcc hc zr (by assumption);simp [zbc, q]
   refine zz<|zQ<|E<|zn<|zh X X<|zaJ X X zaR X<|zw X X<|Y ?_;refine ⟨⟨k1 + 1, h65⟩, ⟨rfl, trivial⟩, ?_, ⟨(le52.trans s66.le), st67, ?_, ?_⟩, ?_⟩
   ·exact zas
   ·first | omega | (simp; omega)
   ·intro j c2 h1 h2
    rcases Nat.lt_or_ge j k1 with h3 | h3
    ·exact hd j c2 h3 h2
    ·obtain rfl : j = k1 := by omega
     rw [h2] at hcc; cases hcc; assumption
   show i - ((k1 + 1)) < i - k1;omega
  refine zaL<|zq<|zq<|zap<|E<|zd<|zw X X<|Y<|zK ?_;refine zaB ([2, 6, 7] ++ zcb 50 35) (G := Nat × Heap) (fun ⟨k2, h69⟩ => [(6, .int .i64 (k2 : Int))]) (fun ⟨k2, h69⟩ w' => Le h51 h69 ∧ St h w h69 w' [[]] ∧ (k2 ≤ c.lines.length) ∧ ((c.lines.take k2).all zgs = true)) (fun ⟨k2, h69⟩ => c.lines.length - k2) ⟨0, h51⟩ ⟨rfl, trivial⟩ ⟨Le.refl _, st53, zba, zba⟩ ?_;rintro ⟨k2, h69⟩ _ w72 ⟨le70, st71, hk2, hl⟩;refine zo<|zd<|zh X X<|U X zaM X zce X X<|have l73:=((le39.t le47).t le52).t le70;M (j := 1) st71.sub (hc34.up l73) X X X zcB X<|have l74:=(((le32.t le39).t le47).t le52).t le70;zaP (f25.up l74) X zaQ X<|zaZ X X X<|Y ?_;refine zG rfl (fun c75 => ?_) (fun c75 => ?_)
  ·refine zz<|E<|zo<|zK<|zo<|zd<|U X zaM X zce X X<|M (j := 1) st71.sub (hc34.up l73) X X X zcB X<|zh X X ?_;obtain ⟨ln, hln⟩ : ∃ y_, (c.lines)[k2]? = some y_ := zbD zr;obtain ⟨b76, o77, _, he79, hc78, hr_ln⟩ := Sl.elem (f25.up l74) hln;obtain ⟨v80, rfl, f81⟩ := hr_ln;have f81_b := f81.le;refine zW he79 X X (hk := X) (hu := zaQ) (hz := zdT) X<|M (j := 0) st71.sub hc78 X X X zej X<|zaP f81 X zV X<|zg st71 X X X zgz X (zct st71.sub _ _ _)<|fun r82 w83 h84 le85 st86 q87=> ?_;subst q87;refine zbu X X<|Y ?_;refine zai rfl (fun c88 => ?_) (fun c88 => ?_)
   ·refine zd<|zF X X<|Y<|zx<|zc<|zD<|zc<|zc<|zD<|zD<|zc<|zc<|zD<|zc<|zb zeO ?_;refine ⟨h84, _, rfl, st86.done, ?_⟩;refine zy ?_;have q1 : zgs ln = false := by simp_all [zgs]
    have q2 := zcI (p := zgs) hln q1;have q0 : zbB c = false := by simp [zbB, q2]
    have q := zcI (p := zbB) hc q0;simp [zbc, q]
   refine zz<|E<|zd<|zw X X<|Y<|zK ?_;refine zaB ([2, 7] ++ zcb 65 20) (G := Nat × Heap) (fun ⟨k3, h89⟩ => [(7, .int .i64 (k3 : Int))]) (fun ⟨k3, h89⟩ w' => Le h84 h89 ∧ St h w h89 w' [[]] ∧ (k3 ≤ ln.length) ∧ ((ln.take k3).all zdK = true)) (fun ⟨k3, h89⟩ => ln.length - k3) ⟨0, h84⟩ ⟨rfl, trivial⟩ ⟨Le.refl _, st86, zba, zba⟩ ?_;rintro ⟨k3, h89⟩ _ w92 ⟨le90, st91, hk3, hw⟩;refine zo<|zd<|zh X X<|U X zaM X zce X X<|M (j := 1) st91.sub (hc34.up ((l73.t le85).t le90)) X X X zcB X<|zh X X<|zW he79 X X (hk := X) (hu := zaQ) (hz := zdT) X<|M (j := 0) st91.sub (hc78.up (le85.t le90)) X X X zej X<|zaP (f81.up (le85.t le90)) X zV X<|zaZ X X X<|Y ?_;refine zG rfl (fun c93 => ?_) (fun c93 => ?_)
   ·refine zz<|E<|zo<|zK<|zd<|U X zaM X zce X X<|M (j := 1) st91.sub (hc34.up ((l73.t le85).t le90)) X X X zcB X<|zh X X<|zW he79 X X (hk := X) (hu := zaQ) (hz := zdT) X<|M (j := 0) st91.sub (hc78.up (le85.t le90)) X X X zej X<|zh X X ?_;obtain ⟨y94, hy94⟩ : ∃ y_, (ln)[k3]? = some y_ := zbD zr;obtain ⟨b95, o96, _, he98, hc97, hr_y94⟩ := Sl.elem (f81.up (le85.t le90)) hy94;obtain ⟨rfl, ls99⟩ := hr_y94;simp only [big] at ls99;refine zW he98 X X (hk := X) (hu := zV) (hz := zal) X<|M (j := 0) st91.sub hc97 X X X zav X<|zg st91 X X X Tryz.call129 X (zeM st91.sub _ zbj)<|fun r100 w101 h102 le103 st104 q105=> ?_;subst q105;refine zbu X X<|Y ?_;refine zai rfl (fun c106 => ?_) (fun c106 => ?_)
    ·refine zd<|zF X X<|Y<|zx<|zD<|zc<|zc<|zD<|zD<|zc<|zc<|zD<|zD<|zc<|zc<|zD<|zc<|zb zeO ?_;refine ⟨h102, _, rfl, st104.done, ?_⟩;refine zy ?_;have q3 := zcI (p := zdK) (by assumption) (by simpa using c106);have q1 : zgs ln = false := by simp [zgs, q3]
     have q2 := zcI (p := zgs) hln q1;have q0 : zbB c = false := by simp [zbB, q2]
     have q := zcI (p := zbB) hc q0;simp [zbc, q]
    refine zz<|zQ<|E<|zn<|zh X X<|zaJ X X zaR X<|zw X X<|Y ?_;refine ⟨⟨k3 + 1, h102⟩, ⟨rfl, trivial⟩, ?_, ⟨(le90.t le103), st104, ?_, ?_⟩, ?_⟩
    ·exact zas
    ·first | omega | (simp; omega)
    ·exact zcr hw (by assumption) (by simp_all)
    show ln.length - ((k3 + 1)) < ln.length - k3;omega
   refine zaL<|zq<|zq<|zap<|zQ<|E<|zn<|zh X X<|zaJ X X zaR X<|zw X X<|Y ?_;refine ⟨⟨k2 + 1, h89⟩, ⟨rfl, trivial⟩, ?_, ⟨((le70.t le85).t le90), st91, ?_, ?_⟩, ?_⟩
   ·exact zas
   ·first | omega | (simp; omega)
   ·exact zcr hl hln (by simp_all [zgs, zdd hw zr])
   show c.lines.length - ((k2 + 1)) < c.lines.length - k2;omega
  refine zaL<|zq<|zq<|zap<|zQ<|E<|zn<|zh X X<|zaJ X X zaR X<|zw X X<|Y ?_;have HCH : zbB c = true := by
   have q := zdd hl zr;simp_all [zbB]
  have l107 := ((((le15.t le32).t le39).t le47).t le52).t le70;refine ⟨⟨i + 1, h69⟩, ⟨rfl, trivial⟩, ?_, ⟨l107, st71.take 0, ?_, ?_, ?_⟩, ?_⟩
  ·exact zas
  ·first | omega | (simp; omega)
  ·exact zcr hA hc HCH
  ·exact nodup_take_succ hN hc zr (fun j c2 h1 h2 => hd j c2 zr h2)
  show t.chapters.length - ((i + 1)) < t.chapters.length - i;omega
 refine zaL<|zq<|zq<|zap<|E<|zd<|zF X X<|Y<|zx<|zb zeO ?_;refine ⟨h14, _, rfl, st16.done, ?_⟩;refine zy ?_;have q := zdd hA zr;have q2 : t.chapters.take i = t.chapters := List.take_of_length_le zr;rw [q2] at hN;simp_all [zbc]
theorem c_postilref01_Check {h : Heap} {w : World} (hs : Sub h w) {t : Text} {t_v0 : Value} (t_f0 : Sl LChapter h t_v0 t.chapters) : Calls Tryz.prog 163 #[.agg #[t_v0]] w (Rets h w (fun _ _ res_ => res_ = .int .i64 ((if zbc t then 0 else 10)))) := by
 refine zR (n := 6) Tryz.func163 X X X<|have st0:=zbg hs;have t_f0_b:=t_f0.le;zd<|zH st0 (cs := [t_v0]) X X X<|fun b1 w2 h3 le4 hc5 st6=>zw X X<|Y<|zo<|zd<|zt st6.sub hc5 X zaY zah X X<|zg st6 X X X Tryz.call200 X (c_postilref01_Text st6.sub (t := t) (t_f0.up le4))<|fun r7 w8 h9 le10 st11 q12=> ?_;subst q12;refine zbu X X<|Y ?_;refine zai rfl (fun c13 => ?_) (fun c13 => ?_)
 ·refine zd<|zw X X<|Y<|zx<|zc<|zb Tryz.results163 ?_;refine ⟨h9, _, rfl, st11.done, ?_⟩;refine zaf ?_;simp_all
 refine zz<|E<|zd<|zw X X<|Y<|zx<|zb Tryz.results163 ?_;refine ⟨h9, _, rfl, st11.done, ?_⟩;refine zaf ?_;simp_all
theorem c_postilref01_line {h : Heap} {w : World} (hs : Sub h w) {t : Text} {t_v0 : Value} (t_f0 : Sl LChapter h t_v0 t.chapters) {p : Place} : Calls Tryz.prog 180 #[.agg #[t_v0], .agg #[.int .i64 p.chapter, .int .i64 p.line, .int .i64 p.word]] w (Rets h w (fun h' _ res_ => ∃ u0, res_ = .tuple #[u0, .bool ((zcV t p).isSome)] ∧ Sl LStr h' u0 ((zcV t p).getD []))) := by
 refine zR (n := 40) Tryz.func180 X X X<|have st0:=zbg hs;have t_f0_b:=t_f0.le;zd<|zH st0 (cs := [t_v0]) X X X<|fun b1 w2 h3 le4 hc5 st6=>zH st6 (cs := [.int .i64 (p.chapter), .int .i64 (p.line), .int .i64 (p.word)]) X X X<|fun b7 w8 h9 le10 hc11 st12=>zcO X X<|zF X X<|Y<|zo<|zo<|zcd Tryz.mixed O (Cls h9 _) (Cls.drew st12)<|zac X zan X zm X X<|zC X X (fun _ hC => (zi (j := 0) hC.sub hc11 X X X zB))<|zac X zbb X zbV X X<|zC X X (fun _ hC => (zi (j := 0) hC.sub (hc5.up le10) X X X zcp))<|have l13:=le4.t le10;u_len (t_f0.up l13) X zaO X<|u_sub X X zaR X<|zdb X X (fun _ => zaV X zgz X) (fun _ hC => Rets.quiet hC (zct hC.sub _ _ _))<|u_not X X<|zfW X X ?_;refine zgm (d := 14) rfl (fun g14 => ?_) (fun g14 => ?_)
 ·refine zfl 13 X<|zff (v := (.bool _)) X X X<|zbv ?_;rintro w15 ⟨h16, s17⟩;have st18 := st12.call0 s17;refine E ?_;refine zai rfl (fun c19 => ?_) (fun c19 => ?_)
  ·refine zd<|zcO X X<|zF X X<|Y<|zx<|zc<|zaU Tryz.results180 ?_;refine ⟨h16, _, rfl, st18.done, ?_⟩;refine ⟨_, zdl rfl (zy ?_), Sl.to (Sl.nil _ _) ?_⟩
   all_goals have q := g14
   all_goals simp [inB] at q
   ·have q2 : zcV t p = none := line_none1 zr;simp [q2]
   have q2 : zcV t p = none := line_none1 zr;simp [q2]
  cases c19
 refine zk X X X<|zac X zan X zm X X<|zk X X X<|zC X X (fun _ hC => (zi (j := 1) hC.sub hc11 X X X zB))<|zk X X X<|zac X zbb X zbV X X<|zk X X X<|zC X X (fun _ hC => (zi (j := 0) hC.sub (hc5.up le10) X X X zcp))<|zk X X X<|zac X zan X zm X X<|zk X X X<|zC X X (fun _ hC => (zi (j := 0) hC.sub hc11 X X X zB))<|zk X X X ?_;have q1 : 0 ≤ p.chapter ∧ p.chapter < t.chapters.length := by
  have q := g14;simp [inB] at q;omega
 obtain ⟨c, hc⟩ : ∃ y_, (t.chapters)[p.chapter.toNat]? = some y_ := zbD zr;obtain ⟨b20, o21, _, he23, hc22, hr_c⟩ := Sl.elem (t_f0.up l13) hc;obtain ⟨v24, rfl, f25⟩ := hr_c;have f25_b := f25.le;refine zC rfl rfl (fun _ _ => (zay he23 rfl rfl (hk := (show _ = ((p.chapter.toNat : Nat) : Int) by omega)) (hu := zaO) (hz := zbC))) ?_;refine zk X X X<|zac X zaM X zce X X<|zk X X X<|zC X X (fun _ hC => (zi (j := 1) hC.sub hc22 X X X zcB))<|zk X X X<|u_len f25 X zaQ X<|zk X X X<|u_sub X X zaR X<|zk X X X<|zdb X X (fun _ => zaV X zgz X) (fun _ hC => Rets.quiet hC (zct hC.sub _ _ _))<|zk X X X<|u_not X X<|zdp (v := (.bool _)) X X X<|zbv ?_;rintro w26 ⟨h27, s28⟩;have st29 := st12.call0 s28;refine E ?_;refine zai rfl (fun c30 => ?_) (fun c30 => ?_)
 ·refine zd<|zcO X X<|zF X X<|Y<|zx<|zc<|zaU Tryz.results180 ?_;refine ⟨h27, _, rfl, st29.done, ?_⟩;refine ⟨_, zdl rfl (zy ?_), Sl.to (Sl.nil _ _) ?_⟩
  all_goals have q := c30
  all_goals simp [inB] at q
  ·have q2 : zcV t p = none := line_none2 hc zr;simp [q2]
  have q2 : zcV t p = none := line_none2 hc zr;simp [q2]
 refine zz<|E<|zo ?_;have q2 : 0 ≤ p.line ∧ p.line < c.lines.length := by
  have q := c30;simp [inB] at q;omega
 refine zcd Tryz.mixed O (Cls h27 _) (Cls.drew st29)<|zac X zbb X zbV X X<|zC X X (fun _ hC => (zi (j := 0) hC.sub (hc5.up (le10.trans s28.le)) X X X zcp))<|zac X zan X zm X X<|zC X X (fun _ hC => (zi (j := 0) hC.sub (hc11.up s28.le) X X X zB)) ?_;refine zC rfl rfl (fun _ _ => (zay he23 rfl rfl (hk := (show _ = ((p.chapter.toNat : Nat) : Int) by omega)) (hu := zaO) (hz := zbC))) ?_;refine zac X zaM X zce X X<|zC X X (fun _ hC => (zi (j := 1) hC.sub (hc22.up s28.le) X X X zcB))<|zac X zan X zm X X<|zC X X (fun _ hC => (zi (j := 1) hC.sub (hc11.up s28.le) X X X zB)) ?_;obtain ⟨ln, hln⟩ : ∃ y_, (c.lines)[p.line.toNat]? = some y_ := zbD zr;obtain ⟨b31, o32, _, he34, hc33, hr_ln⟩ := Sl.elem (f25.up s28.le) hln;obtain ⟨v35, rfl, f36⟩ := hr_ln;have f36_b := f36.le;refine zC rfl rfl (fun _ _ => (zay he34 rfl rfl (hk := (show _ = ((p.line.toNat : Nat) : Int) by omega)) (hu := zaQ) (hz := zdT))) ?_;refine zC X X (fun _ hC => (zi (j := 0) hC.sub hc33 X X X zej))<|u_assign (v := v35) X X<|u_asB X X<|zbv ?_;rintro w37 ⟨h38, s39⟩;have st40 := st29.call0 s39;refine E<|zx<|zaU Tryz.results180 ?_;refine ⟨h38, _, rfl, st40.done, ?_⟩;refine ⟨_, zdl rfl (zy ?_), Sl.to (f36.up s39.le) ?_⟩
 ·simp [line_some hc q1.1 hln q2.1]
 simp [line_some hc q1.1 hln q2.1]
theorem zhN {h : Heap} {w : World} (hs : Sub h w) {t : Text} {t_v0 : Value} (t_f0 : Sl LChapter h t_v0 t.chapters) {p : Place} : Calls Tryz.prog 128 #[.agg #[t_v0], .agg #[.int .i64 p.chapter, .int .i64 p.line, .int .i64 p.word]] w (Rets h w (fun _ _ res_ => res_ = .bool (zbm t p))) := by
 refine zR (n := 22) Tryz.func128 X X X<|have st0:=zbg hs;have t_f0_b:=t_f0.le;zd<|zH st0 (cs := [t_v0]) X X X<|fun b1 w2 h3 le4 hc5 st6=>zH st6 (cs := [.int .i64 (p.chapter), .int .i64 (p.line), .int .i64 (p.word)]) X X X<|fun b7 w8 h9 le10 hc11 st12=>zF X X<|Y<|zd<|zt st12.sub (hc5.up le10) X zaY zah X X<|zt st12.sub hc11 X zax zL X X<|have l13:=le4.t le10;zg st12 X X X Tryz.call180 X (c_postilref01_line st12.sub (t := t) (t_f0.up l13) (p := p))<|fun r14 w15 h16 le17 st18 q19=> ?_;obtain ⟨v20, rfl, f21⟩ := q19;have f21_b := f21.le;refine zcq X X<|zI (v := v20) X X X<|zI (v := (.bool _)) X X X<|zag (v := v20) X X<|zF X X<|Y<|zd<|zX X X<|zX X X ?_;refine zaA (d := 14) rfl (fun g22 => ?_) (fun g22 => ?_)
 ·refine Z X X X<|U X zan X zm X X<|Z X X X<|M (j := 2) st18.sub (hc11.up le17) X X X zB X<|Z X X X<|zY (v := v20) X X<|Z X X X<|zaP f21 X zV X<|Z X X X<|ziB X X zaR X<|Z X X X<|zg st18 X X X zgz X (zct st18.sub _ _ _)<|fun r23 w24 h25 le26 st27 q28=> ?_;subst q28;refine zP (v := (.bool _)) X X X<|zF X X<|Y<|zx<|zb Tryz.results128 ?_;refine ⟨h25, _, rfl, st27.done, ?_⟩;refine zy ?_;simp_all [place_eq]
 refine zM 6 X<|zO (v := (.bool _)) X X X<|zF X X<|Y<|zx<|zb Tryz.results128 ?_;refine ⟨h16, _, rfl, st18.done, ?_⟩;refine zy ?_;simp_all [place_eq]
theorem zjF {h : Heap} {w : World} (hs : Sub h w) {t : Text} {t_v0 : Value} (t_f0 : Sl LChapter h t_v0 t.chapters) {d : Decision} (d_l2 : 0 ≤ d.kind ∧ d.kind ≤ 255) (d_l3 : d.form.length ≤ 281474976710656) (d_l7 : d.to.stem.length ≤ 281474976710656) (d_l8 : 0 ≤ d.to.mark ∧ d.to.mark ≤ 255) : Calls Tryz.prog 88 #[.agg #[t_v0], .agg #[.int .i64 d.number, .int .u8 d.kind, zN d.form, .int .i64 d.at_.chapter, .int .i64 d.at_.line, .int .i64 d.at_.word, zN d.to.stem, .int .u8 d.to.mark, .int .i64 d.of_]] w (Rets h w (fun _ _ res_ => res_ = .bool (zak t d))) := by
 refine zR (n := 102) Tryz.func88 X X X<|have st0:=zbg hs;have t_f0_b:=t_f0.le;zd<|zH st0 (cs := [t_v0]) X X X<|fun b1 w2 h3 le4 hc5 st6=>zH st6 (cs := [.int .i64 (d.number), .int .u8 (d.kind), zN (d.form), .int .i64 (d.at_.chapter), .int .i64 (d.at_.line), .int .i64 (d.at_.word), zN (d.to.stem), .int .u8 (d.to.mark), .int .i64 (d.of_)]) X X X<|fun b7 w8 h9 le10 hc11 st12=>zF X X<|Y<|zo<|zd<|U X zl X zm X X<|M (j := 0) st12.sub hc11 X X X zB X<|zg st12 X X X Tryz.call127 X (zdH st12.sub _ _ _)<|fun r13 w14 h15 le16 st17 q18=> ?_;subst q18;refine zbu X X<|Y ?_;refine zai rfl (fun c19 => ?_) (fun c19 => ?_)
 ·refine zd<|zF X X<|Y<|zx<|zc<|zb zci ?_;refine ⟨h15, _, rfl, st17.done, ?_⟩;refine zy ?_;simp_all [zak]
 have qn : 1 ≤ d.number ∧ d.number ≤ 999 := by
  have q := c19;simp [inB] at q;omega
 refine zz<|E<|zd<|zf X X (zbo (cs := [.int .i64 0, .int .i64 0, .int .i64 0]) O)<|zf X X (zbo (cs := [zN [], .int .u8 0]) O)<|zt st17.sub (hc5.up (le10.t le16)) X zaY zah X X<|U X zl X zL X X<|zZ (j := 3) st17.sub (hc11.up le16) (us := [.int .i64 (d.at_.chapter), .int .i64 (d.at_.line), .int .i64 (d.at_.word)]) X X zax zL X X X<|have l20:=(le4.t le10).t le16;zg st17 X X X Tryz.call128 X (zhN st17.sub (t := t) (t_f0.up l20) (p := d.at_))<|fun r21 w22 h23 le24 st25 q26=> ?_;subst q26;refine zT st25 zeZ X X<|fun b27 w28 st29=>zT st29 zds X X<|fun b30 w31 st32=>zJ st32 (k := 0) X X X (za X (za X (za X zao))) zL X X X<|fun w33 st34=> ?_;obtain ⟨h35, le36, hb37, st39⟩ := st34.freeze (k := 0) rfl;have hc38 := Cells.of hb37;refine zJ st39 (k := 1) X X X (za X (za X zao)) zU X X X<|fun w40 st41=> ?_;obtain ⟨h42, le43, hb44, st46⟩ := st41.freeze (k := 1) rfl;have hc45 := Cells.of hb44;refine zF X X<|Y<|zo<|zd<|U X zl X zbl X X<|have l47:=((le16.t le24).t le36).t le43;M (j := 1) st46.sub (hc11.up l47) X X X zbQ X<|Y<|zK<|zd<|zdc X X X<|zF X X<|Y ?_;refine zG rfl (fun c48 => ?_) (fun c48 => ?_)
 ·refine zd<|U X zl X zal X X<|M (j := 2) st46.sub (hc11.up l47) X X X zav X<|zg st46 X X X Tryz.call129 X (zeM st46.sub _ zbj)<|fun r49 w50 h51 le52 st53 q54=> ?_;subst q54;refine zX X X ?_;refine zaA (d := 25) rfl (fun g55 => ?_) (fun g55 => ?_)
  ·refine Z X X X<|U X zl X zL X X<|Z X X X<|zZ (j := 3) st53.sub (hc11.up (l47.t le52)) (us := [.int .i64 (d.at_.chapter), .int .i64 (d.at_.line), .int .i64 (d.at_.word)]) X X zax zL X X X<|Z X X X<|zt st53.sub (hc38.up (le43.t le52)) X zax zL X X<|Z X X X<|zf X X (zgf X X zeW (Tryz.eq_Place d.at_ zdE))<|zP (v := (.bool _)) X X X<|zX X X ?_;refine zae (d := 31) rfl (fun g56 => ?_) (fun g56 => ?_)
   ·refine Z X X X<|U X zl X zU X X<|Z X X X<|zZ (j := 6) st53.sub (hc11.up (l47.t le52)) (us := [zN (d.to.stem), .int .u8 (d.to.mark)]) X X zaX zU X X X<|Z X X X<|zg st53 X X X Tryz.call130 X (zeL st53.sub (hd := d.to) zbj zeq)<|fun r57 w58 h59 le60 st61 q62=> ?_;subst q62;refine zP (v := (.bool _)) X X X<|zX X X ?_;refine zaA (d := 36) rfl (fun g63 => ?_) (fun g63 => ?_)
    ·refine Z X X X<|U X zl X zm X X<|Z X X X<|M (j := 8) st61.sub (hc11.up ((l47.t le52).t le60)) X X X zB X<|Z X X X<|zdc X X X<|zP (v := (.bool _)) X X X<|zF X X<|Y<|zx<|zD<|zc<|zb zci ?_;refine ⟨h59, _, rfl, st61.done, ?_⟩;refine zy ?_;simp_all [zak]
    refine zM 3 X<|zO (v := (.bool _)) X X X<|zF X X<|Y<|zx<|zD<|zc<|zb zci ?_;refine ⟨h59, _, rfl, st61.done, ?_⟩;refine zy ?_;simp_all [zak]
   refine zM 3 X<|zO (v := (.bool _)) X X X<|zX X X<|zM 3 X<|zO (v := (.bool _)) X X X<|zF X X<|Y<|zx<|zD<|zc<|zb zci ?_;refine ⟨h51, _, rfl, st53.done, ?_⟩;refine zy ?_;simp_all [zak]
  refine zM 4 X<|zO (v := (.bool _)) X X X<|zX X X<|zM 3 X<|zO (v := (.bool _)) X X X<|zX X X<|zM 3 X<|zO (v := (.bool _)) X X X<|zF X X<|Y<|zx<|zD<|zc<|zb zci ?_;refine ⟨h51, _, rfl, st53.done, ?_⟩;refine zy ?_;simp_all [zak]
 refine zd<|zdc X X X<|zF X X<|Y ?_;refine zG rfl (fun c64 => ?_) (fun c64 => ?_)
 ·refine zd<|U X zl X zal X X<|M (j := 2) st46.sub (hc11.up l47) X X X zav X<|zg st46 X X X Tryz.call129 X (zeM st46.sub _ zbj)<|fun r65 w66 h67 le68 st69 q70=> ?_;subst q70;refine zX X X ?_;refine zaA (d := 46) rfl (fun g71 => ?_) (fun g71 => ?_)
  ·refine Z X X X<|zX X X<|zP (v := (.bool _)) X X X<|zX X X ?_;refine zaA (d := 49) rfl (fun g72 => ?_) (fun g72 => ?_)
   ·refine Z X X X<|U X zl X zU X X<|Z X X X<|zZ (j := 6) st69.sub (hc11.up (l47.t le68)) (us := [zN (d.to.stem), .int .u8 (d.to.mark)]) X X zaX zU X X X<|Z X X X<|zg st69 X X X Tryz.call130 X (zeL st69.sub (hd := d.to) zbj zeq)<|fun r73 w74 h75 le76 st77 q78=> ?_;subst q78;refine zP (v := (.bool _)) X X X<|zX X X ?_;refine zaA (d := 54) rfl (fun g79 => ?_) (fun g79 => ?_)
    ·refine Z X X X<|U X zl X zm X X<|Z X X X<|M (j := 8) st77.sub (hc11.up ((l47.t le68).t le76)) X X X zB X<|Z X X X<|zdc X X X<|zP (v := (.bool _)) X X X<|zF X X<|Y<|zx<|zD<|zc<|zb zci ?_;refine ⟨h75, _, rfl, st77.done, ?_⟩;refine zy ?_;simp_all [zak]
    refine zM 3 X<|zO (v := (.bool _)) X X X<|zF X X<|Y<|zx<|zD<|zc<|zb zci ?_;refine ⟨h75, _, rfl, st77.done, ?_⟩;refine zy ?_;simp_all [zak]
   refine zM 3 X<|zO (v := (.bool _)) X X X<|zX X X<|zM 3 X<|zO (v := (.bool _)) X X X<|zF X X<|Y<|zx<|zD<|zc<|zb zci ?_;refine ⟨h67, _, rfl, st69.done, ?_⟩;refine zy ?_;simp_all [zak]
  refine zM 1 X<|zO (v := (.bool _)) X X X<|zX X X<|zM 3 X<|zO (v := (.bool _)) X X X<|zX X X<|zM 3 X<|zO (v := (.bool _)) X X X<|zF X X<|Y<|zx<|zD<|zc<|zb zci ?_;refine ⟨h67, _, rfl, st69.done, ?_⟩;refine zy ?_;simp_all [zak]
 refine zd<|zdc X X X<|zF X X<|Y ?_;refine zG rfl (fun c80 => ?_) (fun c80 => ?_)
 ·refine zd<|U X zl X zal X X<|M (j := 2) st46.sub (hc11.up l47) X X X zav X<|v_seql X X X<|zX X X ?_;refine zae (d := 64) rfl (fun g81 => ?_) (fun g81 => ?_)
  ·refine Z X X X<|zX X X<|zP (v := (.bool _)) X X X<|zX X X ?_;refine zaA (d := 67) rfl (fun g82 => ?_) (fun g82 => ?_)
   ·refine Z X X X<|U X zl X zU X X<|Z X X X<|zZ (j := 6) st46.sub (hc11.up l47) (us := [zN (d.to.stem), .int .u8 (d.to.mark)]) X X zaX zU X X X<|Z X X X<|zg st46 X X X Tryz.call130 X (zeL st46.sub (hd := d.to) zbj zeq)<|fun r83 w84 h85 le86 st87 q88=> ?_;subst q88;refine zP (v := (.bool _)) X X X<|zX X X ?_;refine zaA (d := 72) rfl (fun g89 => ?_) (fun g89 => ?_)
    ·refine Z X X X<|U X zl X zm X X<|Z X X X<|M (j := 8) st87.sub (hc11.up (l47.t le86)) X X X zB X<|Z X X X<|zdc X X X<|zP (v := (.bool _)) X X X<|zF X X<|Y<|zx<|zD<|zc<|zb zci ?_;refine ⟨h85, _, rfl, st87.done, ?_⟩;refine zy ?_;simp_all [zak]
    refine zM 3 X<|zO (v := (.bool _)) X X X<|zF X X<|Y<|zx<|zD<|zc<|zb zci ?_;refine ⟨h85, _, rfl, st87.done, ?_⟩;refine zy ?_;simp_all [zak]
   refine zM 3 X<|zO (v := (.bool _)) X X X<|zX X X<|zM 3 X<|zO (v := (.bool _)) X X X<|zF X X<|Y<|zx<|zD<|zc<|zb zci ?_;refine ⟨h42, _, rfl, st46.done, ?_⟩;refine zy ?_;simp_all [zak]
  refine zM 1 X<|zO (v := (.bool _)) X X X<|zX X X<|zM 3 X<|zO (v := (.bool _)) X X X<|zX X X<|zM 3 X<|zO (v := (.bool _)) X X X<|zF X X<|Y<|zx<|zD<|zc<|zb zci ?_;refine ⟨h42, _, rfl, st46.done, ?_⟩;refine zy ?_;simp_all [zak]
 refine zd<|zdc X X X<|zF X X<|Y ?_;refine zG rfl (fun c90 => ?_) (fun c90 => ?_)
 ·refine zd<|U X zl X zal X X<|M (j := 2) st46.sub (hc11.up l47) X X X zav X<|v_seql X X X<|zX X X ?_;refine zae (d := 82) rfl (fun g91 => ?_) (fun g91 => ?_)
  ·refine Z X X X<|U X zl X zL X X<|Z X X X<|zZ (j := 3) st46.sub (hc11.up l47) (us := [.int .i64 (d.at_.chapter), .int .i64 (d.at_.line), .int .i64 (d.at_.word)]) X X zax zL X X X<|Z X X X<|zt st46.sub (hc38.up le43) X zax zL X X<|Z X X X<|zf X X (zgf X X zeW (Tryz.eq_Place d.at_ zdE))<|zP (v := (.bool _)) X X X<|zX X X ?_;refine zae (d := 88) rfl (fun g92 => ?_) (fun g92 => ?_)
   ·refine Z X X X<|U X zl X zU X X<|Z X X X<|zZ (j := 6) st46.sub (hc11.up l47) (us := [zN (d.to.stem), .int .u8 (d.to.mark)]) X X zaX zU X X X<|Z X X X<|zt st46.sub hc45 X zaX zU X X<|Z X X X<|zf X X (zgf X X zcD (Tryz.eq_Head d.to zdy))<|zP (v := (.bool _)) X X X<|zX X X ?_;refine zae (d := 94) rfl (fun g93 => ?_) (fun g93 => ?_)
    ·refine Z X X X<|U X zl X zm X X<|Z X X X<|M (j := 8) st46.sub (hc11.up l47) X X X zB X<|Z X X X<|U X zl X zm X X<|Z X X X<|M (j := 0) st46.sub (hc11.up l47) X X X zB X<|Z X X X<|ziB X X zaR X<|Z X X X<|zg st46 X X X Tryz.call127 X (zdH st46.sub _ _ _)<|fun r94 w95 h96 le97 st98 q99=> ?_;subst q99;refine zP (v := (.bool _)) X X X<|zF X X<|Y<|zx<|zD<|zc<|zb zci ?_;refine ⟨h96, _, rfl, st98.done, ?_⟩;refine zy ?_;simp_all [zak]
    refine zM 6 X<|zO (v := (.bool _)) X X X<|zF X X<|Y<|zx<|zD<|zc<|zb zci ?_;refine ⟨h42, _, rfl, st46.done, ?_⟩;refine zy ?_;simp_all [zak]
   refine zM 4 X<|zO (v := (.bool _)) X X X<|zX X X<|zM 6 X<|zO (v := (.bool _)) X X X<|zF X X<|Y<|zx<|zD<|zc<|zb zci ?_;refine ⟨h42, _, rfl, st46.done, ?_⟩;refine zy ?_;simp_all [zak]
  refine zM 4 X<|zO (v := (.bool _)) X X X<|zX X X<|zM 4 X<|zO (v := (.bool _)) X X X<|zX X X<|zM 6 X<|zO (v := (.bool _)) X X X<|zF X X<|Y<|zx<|zD<|zc<|zb zci ?_;refine ⟨h42, _, rfl, st46.done, ?_⟩;refine zy ?_;simp_all [zak]
 refine zz<|zQ<|E<|zd<|zF X X<|Y<|zx<|zb zci ?_;refine ⟨h42, _, rfl, st46.done, ?_⟩;refine zy ?_;simp_all [zak]
theorem zgX {h : Heap} {w : World} (hs : Sub h w) {t : Text} {t_v0 : Value} (t_f0 : Sl LChapter h t_v0 t.chapters) {x : Lexicon} {x_v0 : Value} (x_f0 : Sl LRule h x_v0 x.rules) {x_v1 : Value} (x_f1 : Sl LDecision h x_v1 x.decisions) : Calls Tryz.prog 38 #[.agg #[t_v0], .agg #[x_v0, x_v1]] w (Rets h w (fun _ _ res_ => res_ = .bool (zcl t x))) := by
 refine zR (n := 65) Tryz.func38 X X X<|have st0:=zbg hs;have t_f0_b:=t_f0.le;have x_f0_b:=x_f0.le;have x_f1_b:=x_f1.le;zd<|zH st0 (cs := [t_v0]) X X X<|fun b1 w2 h3 le4 hc5 st6=>zH st6 (cs := [x_v0, x_v1]) X X X<|fun b7 w8 h9 le10 hc11 st12=>zF X X<|Y<|zo<|zd<|U X zaC X zdU X X<|M (j := 0) st12.sub hc11 X X X zek X<|have l13:=le4.t le10;zaP (x_f0.up l13) X zbK X<|zdF X X X<|zX X X ?_;refine zae (d := 12) rfl (fun g14 => ?_) (fun g14 => ?_)
 ·refine zM 4 X<|zP (v := (.bool _)) X X X<|Y ?_;refine zai rfl (fun c15 => ?_) (fun c15 => ?_)
  ·refine zd<|zF X X<|Y<|zx<|zc<|zb zgy ?_;refine ⟨h9, _, rfl, st12.done, ?_⟩;refine zy ?_;have q := g14;simp [zcl]
   intros
   omega
  cases c15
 refine Z X X X<|U X zaC X zcA X X<|Z X X X<|M (j := 1) st12.sub hc11 X X X zcX X<|Z X X X<|zaP (x_f1.up l13) X zaN X<|Z X X X<|zdF X X X<|zO (v := (.bool _)) X X X<|Y ?_;refine zG rfl (fun c16 => ?_) (fun c16 => ?_)
 ·refine zd<|zF X X<|Y<|zx<|zc<|zb zgy ?_;refine ⟨h9, _, rfl, st12.done, ?_⟩;refine zy ?_;have q := c16;simp [zcl]
  intros
  omega
 refine zz<|E<|zo<|zd<|zw X X<|Y<|zK ?_;refine zaB ([4, 5] ++ zcb 18 14) (G := Nat × Heap) (fun ⟨i, h17⟩ => [(5, .int .i64 (i : Int))]) (fun ⟨i, h17⟩ w' => Le h9 h17 ∧ St h w h17 w' [] ∧ (i ≤ x.rules.length) ∧ ((x.rules.take i).all zhy = true)) (fun ⟨i, h17⟩ => x.rules.length - i) ⟨0, h9⟩ ⟨rfl, trivial⟩ ⟨Le.refl _, st12, zba, zba⟩ ?_;rintro ⟨i, h17⟩ _ w20 ⟨le18, st19, hi, hR⟩;refine zo<|zd<|zh X X<|U X zaC X zdU X X<|M (j := 0) st19.sub (hc11.up le18) X X X zek X<|have l21:=l13.t le18;zaP (x_f0.up l21) X zbK X<|zaZ X X X<|Y ?_;refine zG rfl (fun c22 => ?_) (fun c22 => ?_)
 ·refine zz<|E<|zo<|zK<|zd<|U X zaC X zdU X X<|M (j := 0) st19.sub (hc11.up le18) X X X zek X<|zh X X ?_;obtain ⟨r, hr⟩ : ∃ y_, (x.rules)[i]? = some y_ := zbD zr;obtain ⟨b23, o24, _, he26, hc25, hr_r⟩ := Sl.elem (x_f0.up l21) hr;obtain ⟨rfl, ls27, ls28⟩ := hr_r;simp only [big] at ls27;simp only [big] at ls28;refine zW he26 X X (hk := X) (hu := zbK) (hz := zdI) X<|zt st19.sub hc25 X Tryz.isAgg122 zdI X X<|zg st19 X X X Tryz.call87 X (c_postilref04_Rule st19.sub (r := r) zbj zbj)<|fun r29 w30 h31 le32 st33 q34=> ?_;subst q34;refine zbu X X<|Y ?_;refine zai rfl (fun c35 => ?_) (fun c35 => ?_)
  ·refine zd<|zF X X<|Y<|zx<|zD<|zc<|zc<|zD<|zc<|zb zgy ?_;refine ⟨h31, _, rfl, st33.done, ?_⟩;refine zy ?_;have q := zcI (p := zhy) hr (by simpa using c35);simp [zcl, q]
  refine zz<|zQ<|E<|zn<|zh X X<|zaJ X X zaR X<|zw X X<|Y ?_;refine ⟨⟨i + 1, h31⟩, ⟨rfl, trivial⟩, ?_, ⟨(le18.t le32), st33, ?_, ?_⟩, ?_⟩
  ·exact zas
  ·first | omega | (simp; omega)
  ·exact zcr hR hr (by simpa using c35)
  show x.rules.length - ((i + 1)) < x.rules.length - i;omega
 refine zaL<|zq<|zq<|zap<|E<|zo<|zd<|zw X X<|Y<|zK ?_;refine zaB ([4, 6, 7] ++ zcb 32 33) (G := Nat × Heap) (fun ⟨i, h36⟩ => [(6, .int .i64 (i : Int))]) (fun ⟨i, h36⟩ w' => Le h17 h36 ∧ St h w h36 w' [] ∧ (i ≤ x.decisions.length) ∧ ((x.decisions.take i).all (zak t) = true) ∧ (((x.decisions.take i).map (·.number)).Nodup)) (fun ⟨i, h36⟩ => x.decisions.length - i) ⟨0, h17⟩ ⟨rfl, trivial⟩ ⟨Le.refl _, st19, zba, zba, zba⟩ ?_;rintro ⟨i, h36⟩ _ w39 ⟨le37, st38, hi, hD, hN⟩;refine zo<|zd<|zh X X<|U X zaC X zcA X X<|M (j := 1) st38.sub (hc11.up (le18.t le37)) X X X zcX X<|have l40:=l21.t le37;zaP (x_f1.up l40) X zaN X<|zaZ X X X<|Y ?_;refine zG rfl (fun c41 => ?_) (fun c41 => ?_)
 ·refine zz<|E<|zo<|zK<|zo<|zo<|zcd Tryz.mixed O (Cls h36 _) (Cls.drew st38)<|zC X X (fun _ hC => (zar hC.sub (hc5.up ((le10.t le18).t le37)) X zaY zah X))<|zac X zaC X zcA X X<|zC X X (fun _ hC => (zi (j := 1) hC.sub (hc11.up (le18.t le37)) X X X zcX))<|zdr X X ?_;obtain ⟨d, hd⟩ : ∃ y_, (x.decisions)[i]? = some y_ := zbD zr;obtain ⟨b42, o43, _, he45, hc44, hr_d⟩ := Sl.elem (x_f1.up l40) hd;obtain ⟨rfl, lu46, ls47, ls48, lu49⟩ := hr_d;simp only [big] at ls47;simp only [big] at ls48;refine zca he45 X X (hk := X) (hu := zaN) (hz := zaa) X<|zC X X (fun _ hC => (zar hC.sub hc44 X zaT zaa X))<|zdb X X (fun _ => zaV X Tryz.call88 X) (fun _ hC => Rets.quiet hC (zjF hC.sub (t := t) (t_f0.up l40) (d := d) zeq zbj zbj zeq))<|u_not X X<|zbv ?_;rintro w50 ⟨h51, s52⟩;have st53 := st38.call0 s52;refine E ?_;refine zai rfl (fun c54 => ?_) (fun c54 => ?_)
  ·refine zd<|zF X X<|Y<|zx<|zc<|zD<|zc<|zc<|zD<|zc<|zb zgy ?_;refine ⟨h51, _, rfl, st53.done, ?_⟩;refine zy ?_;have q := zcI (p := zak t) hd (by simpa using c54);simp [zcl, q]
  refine zz<|E<|zd<|zw X X<|Y<|zK ?_;refine zaB ([4, 7] ++ zcb 47 18) (G := Nat × Heap) (fun ⟨k, h55⟩ => [(7, .int .i64 (k : Int))]) (fun ⟨k, h55⟩ w' => Le h51 h55 ∧ St h w h55 w' [] ∧ (k ≤ i) ∧ (∀ j c2, j < k → x.decisions[j]? = some c2 → c2.number ≠ d.number)) (fun ⟨k, h55⟩ => i - k) ⟨0, h51⟩ ⟨rfl, trivial⟩ ⟨Le.refl _, st53, zba, (by intro j _ hj; omega)⟩ ?_;rintro ⟨k, h55⟩ _ w58 ⟨le56, st57, hk, hq⟩;refine zo<|zd<|zh X X<|zh X X<|zaZ X X X<|Y ?_;refine zG rfl (fun c59 => ?_) (fun c59 => ?_)
  ·refine zz<|E<|zo<|zK<|zo<|zcd Tryz.mixed O (Cls h55 _) (Cls.drew st57)<|zac X zaC X zcA X X<|have l60:=((le18.t le37).trans s52.le).t le56;zC X X (fun _ hC => (zi (j := 1) hC.sub (hc11.up l60) X X X zcX))<|zdr X X ?_;obtain ⟨e, he⟩ : ∃ y_, (x.decisions)[k]? = some y_ := zbD zr;have l65 := (l40.trans s52.le).t le56;obtain ⟨b61, o62, _, he64, hc63, hr_e⟩ := Sl.elem (x_f1.up l65) he;obtain ⟨rfl, lu66, ls67, ls68, lu69⟩ := hr_e;simp only [big] at ls67;simp only [big] at ls68;refine zca he64 X X (hk := X) (hu := zaN) (hz := zaa) X<|zac X zl X zm X X<|zC X X (fun _ hC => (zi (j := 0) hC.sub hc63 X X X zB))<|zac X zaC X zcA X X<|zC X X (fun _ hC => (zi (j := 1) hC.sub (hc11.up l60) X X X zcX))<|zdr X X<|zca he45 X X (hk := X) (hu := zaN) (hz := zaa) X<|zac X zl X zm X X<|zC X X (fun _ hC => (zi (j := 0) hC.sub (hc44.up (s52.le.t le56)) X X X zB))<|u_eql X X X<|zbv ?_;rintro w70 ⟨h71, s72⟩;have st73 := st57.call0 s72;refine E ?_;refine zG rfl (fun c74 => ?_) (fun c74 => ?_)
   ·refine zd<|zF X X<|Y<|zx<|zD<|zc<|zc<|zD<|zD<|zc<|zc<|zD<|zc<|zb zgy ?_;refine ⟨h71, _, rfl, st73.done, ?_⟩;refine zy ?_;have q := zjc (f := (·.number)) he hd zr (by assumption);simp [zcl, q]
   refine zz<|zQ<|E<|zn<|zh X X<|zaJ X X zaR X<|zw X X<|Y ?_;refine ⟨⟨k + 1, h71⟩, ⟨rfl, trivial⟩, ?_, ⟨(le56.trans s72.le), st73, ?_, ?_⟩, ?_⟩
   ·exact zas
   ·first | omega | (simp; omega)
   ·intro j c2 h1 h2
    rcases Nat.lt_or_ge j k with h3 | h3
    ·exact hq j c2 h3 h2
    ·obtain rfl : j = k := by omega
     rw [h2] at he; cases he; assumption
   show i - ((k + 1)) < i - k;omega
  refine zaL<|zq<|zq<|zap<|zQ<|E<|zn<|zh X X<|zaJ X X zaR X<|zw X X<|Y ?_;have HD : zak t d = true := by simpa using c54
  refine ⟨⟨i + 1, h55⟩, ⟨rfl, trivial⟩, ?_, ⟨((le37.trans s52.le).t le56), st57, ?_, ?_, ?_⟩, ?_⟩
  ·exact zas
  ·first | omega | (simp; omega)
  ·exact zcr hD hd HD
  ·exact nodup_take_succ hN hd zr (fun j c2 h1 h2 => hq j c2 zr h2)
  show x.decisions.length - ((i + 1)) < x.decisions.length - i;omega
 refine zaL<|zq<|zq<|zap<|E<|zd<|zF X X<|Y<|zx<|zb zgy ?_;refine ⟨h36, _, rfl, st38.done, ?_⟩;refine zy ?_;have q1 := zdd hR zr;have q2 := zdd hD zr;have q3 : x.decisions.take i = x.decisions := List.take_of_length_le zr;rw [q3] at hN;simp [zcl, q1, q2, hN];omega
theorem c_postilref04_Check {h : Heap} {w : World} (hs : Sub h w) {t : Text} {t_v0 : Value} (t_f0 : Sl LChapter h t_v0 t.chapters) {x : Lexicon} {x_v0 : Value} (x_f0 : Sl LRule h x_v0 x.rules) {x_v1 : Value} (x_f1 : Sl LDecision h x_v1 x.decisions) : Calls Tryz.prog 119 #[.agg #[t_v0], .agg #[x_v0, x_v1]] w (Rets h w (fun _ _ res_ => res_ = .int .i64 (zaE t x))) := by
 refine zR (n := 15) Tryz.func119 X X X<|have st0:=zbg hs;have t_f0_b:=t_f0.le;have x_f0_b:=x_f0.le;have x_f1_b:=x_f1.le;zd<|zH st0 (cs := [t_v0]) X X X<|fun b1 w2 h3 le4 hc5 st6=>zH st6 (cs := [x_v0, x_v1]) X X X<|fun b7 w8 h9 le10 hc11 st12=>zw X X<|Y<|zo<|zd<|zt st12.sub (hc5.up le10) X zaY zah X X<|have l13:=le4.t le10;zg st12 X X X Tryz.call163 X (c_postilref01_Check st12.sub (t := t) (t_f0.up l13))<|fun r14 w15 h16 le17 st18 q19=> ?_;subst q19;refine zw X X<|Y<|zd<|zh X X<|zcs X X X<|Y ?_;refine zG rfl (fun c20 => ?_) (fun c20 => ?_)
 ·refine zd<|zh X X<|zw X X<|Y<|zx<|zc<|zb Tryz.results119 ?_;refine ⟨h16, _, rfl, st18.done, ?_⟩;refine zaf ?_;simp_all [zaE]
 refine zz<|E<|zo<|zd<|zt st18.sub (hc5.up (le10.t le17)) X zaY zah X X<|zt st18.sub (hc11.up le17) X zbz zau X X<|have l21:=l13.t le17;zg st18 X X X Tryz.call38 X (zgX st18.sub (t := t) (t_f0.up l21) (x := x) (x_f0.up l21) (x_f1.up l21))<|fun r22 w23 h24 le25 st26 q27=> ?_;subst q27;refine zbu X X<|Y ?_;refine zai rfl (fun c28 => ?_) (fun c28 => ?_)
 ·refine zd<|zw X X<|Y<|zx<|zc<|zb Tryz.results119 ?_;refine ⟨h24, _, rfl, st26.done, ?_⟩;refine zaf ?_;simp_all [zaE]
 refine zz<|E<|zd<|zw X X<|Y<|zx<|zb Tryz.results119 ?_;refine ⟨h24, _, rfl, st26.done, ?_⟩;refine zaf ?_;simp_all [zaE]
end Go.Pk

namespace Go.Pk
open Go Go.RowKit Go.Proofs
end Go.Pk

namespace Go.Pk
open Go Go.RowKit Go.Proofs
theorem zho {xs : List Int} {v : Value} {g : FuncId} {caps : List Value} (S : Nat → Heap → World → Prop) (p : Nat → Bool)
  (hS : ∀ k h w, S k h w → Sub h w ∧ Sl LInt h v xs)
  (hf : ∀ k x h w vs, S k h w → xs[k]? = some x → LInt.R h vs x → ∀ u, vs = [u] → Calls Tryz.prog g (u :: caps).toArray w (fun e w' => ∃ h', e = .returned (.bool (p k)) ∧ S (k + 1) h' w'))
  (hg : ∀ a w, (callFunc g a).run Tryz.prog w = .ok (.enter g a) w) {h : Heap} {w : World} (h0 : S 0 h w) :
  Calls Tryz.prog 136 #[v, .func (.func g) #[] caps.toArray] w (fun e w' => ∃ h' k, e = .returned (.int .i64 (if k < xs.length then (k : Int) else -1)) ∧ k ≤ xs.length ∧ (∀ j, j < k → p j = false) ∧ (k < xs.length → p k = true) ∧ S (if k < xs.length then k + 1 else k) h' w') := by
 refine zR (n := 19) Tryz.func136 X X X<|have hb:=(hS 0 h w h0).2.le;zd<|zw X X<|Y<|zo<|zd<|zY (v := v) X X<|zaP (hS 0 h w h0).2 X zj X<|zh X X<|Y<|zK ?_;refine zaB ([4, 5] ++ zcb 8 11) (G := Nat × Heap) (fun ⟨k, _⟩ => [(8, .int .i64 (k : Int))]) (fun ⟨k, h'⟩ w' => S k h' w' ∧ k ≤ xs.length ∧ ∀ j, j < k → p j = false) (fun ⟨k, _⟩ => xs.length - k) ⟨0, h⟩ ⟨rfl, trivial⟩ ⟨h0, by omega, by intros; omega⟩ ?_;rintro ⟨k, h1⟩ _ w1 ⟨hS1, hk, hp⟩;obtain ⟨hsub, hsl⟩ := hS k h1 w1 hS1;refine zd<|zaZ X X X<|Y<|zo ?_;refine zai rfl (fun c1 => ?_) (fun c1 => ?_)
 ·replace c1 := zha c1;refine zz<|E<|zo<|zK<|zd<|zh X X<|zw X X<|Y<|zd<|zhx X X<|zY (v := v) X X<|zh X X ?_;have hy : ∃ y, xs[k]? = some y := ⟨_, List.getElem?_eq_getElem zr⟩;obtain ⟨y, hy⟩ := hy;obtain ⟨b, o, vs, he, hc, hr⟩ := Sl.elem hsl hy;refine zW he X X (hk := X) (hu := zj) (hz := zm) X ?_;obtain ⟨u, rfl⟩ : ∃ u, vs = [u] := by
   have q := LInt.len hr
   match vs, q with
   | [u], _ => exact ⟨u, rfl⟩
  refine M (j := 0) hsub hc X X X zB X ?_;refine zaw rfl rfl (zbT (fs := []) (cs := caps) rfl rfl hg rfl) ((hf k y h1 w1 _ hS1 hy hr _ rfl).mono ?_);rintro e w2 ⟨h2, rfl, hS2⟩;refine ⟨_, rfl, ?_⟩;refine Y ?_;refine zai rfl (fun c2 => ?_) (fun c2 => ?_)
  ·refine zo ?_;refine zn<|zh X X<|zw X X<|Y<|zx ?_
   repeat (first | refine zD ?_ | refine zc ?_)
   refine zb Tryz.results136 ?_;have hlt : k < xs.length := by omega
   exact ⟨h2, k, by rw [if_pos hlt]; rfl, hk, hp, fun _ => c2, by rw [if_pos hlt]; exact hS2⟩
  ·refine zz ?_;refine zQ<|E<|zn ?_;refine zf rfl rfl (zjb rfl rfl zr) ?_;refine zh X X<|Y ?_;refine ⟨⟨k + 1, h2⟩, ⟨rfl, trivial⟩, ?_, ⟨hS2, by omega, ?_⟩, ?_⟩
   ·exact zas
   ·intro j hj
    rcases Nat.lt_or_ge j k with h3 | h3
    ·exact hp j h3
    ·obtain rfl : j = k := by omega
     exact c2
   ·show xs.length - (k + 1) < xs.length - k;omega
 ·replace c1 := zii c1;refine zaL<|zq<|zq<|zap<|E<|zd<|zw X X<|Y<|zx<|zb Tryz.results136 ?_;have hlt : ¬ k < xs.length := by omega
  exact ⟨h1, k, by rw [if_neg hlt]; rfl, hk, hp, fun q => absurd q hlt, by rw [if_neg hlt]; exact hS1⟩

theorem zgB {xs : List Int} {v : Value} {g : FuncId} {caps : List Value} (S : Nat → Heap → World → Prop) (p : Nat → Bool)
  (hS : ∀ k h w, S k h w → Sub h w ∧ Sl LInt h v xs)
  (hf : ∀ k x h w vs, S k h w → xs[k]? = some x → LInt.R h vs x → ∀ u, vs = [u] → Calls Tryz.prog g (u :: caps).toArray w (fun e w' => ∃ h', e = .returned (.bool (p k)) ∧ S (k + 1) h' w'))
  (hg : ∀ a w, (callFunc g a).run Tryz.prog w = .ok (.enter g a) w) {h : Heap} {w : World} (h0 : S 0 h w) :
  Calls Tryz.prog 97 #[v, .func (.func g) #[] caps.toArray] w (fun e w' => ∃ h' k, e = .returned (.bool (decide (k < xs.length))) ∧ k ≤ xs.length ∧ (∀ j, j < k → p j = false) ∧ (k < xs.length → p k = true) ∧ S (if k < xs.length then k + 1 else k) h' w') := by
 refine zR (n := 9) Tryz.func97 X X X<|zd<|zF X X<|Y<|zd<|zY (v := v) X X<|zhx X X ?_;refine zaw rfl rfl (zaV rfl Tryz.call136 rfl) ((zho S p hS hf hg h0).mono ?_);rintro e w2 ⟨h2, k, rfl, q1, q2, q3, q4⟩;refine ⟨_, rfl, ?_⟩;refine zig X X X<|zF X X<|Y<|zx<|zb Tryz.results97 ?_;refine ⟨h2, k, congrArg Ending.returned (zy ?_), q1, q2, q3, q4⟩
 by_cases hlt : k < xs.length
 ·simp [hlt]
 ·simp [hlt]
theorem zdA {xs : List Int} {v : Value} {g : FuncId} {caps : List Value} {h : Heap} {w : World} (hs : Sub h w) (hx : Sl LInt h v xs) (q : Int → Bool)
  (hg : ∀ a w, (callFunc g a).run Tryz.prog w = .ok (.enter g a) w)
  (hf : ∀ x h' w' vs, Le h h' → Sub h' w' → x ∈ xs → LInt.R h' vs x → ∀ u, vs = [u] → Calls Tryz.prog g (u :: caps).toArray w' (Rets h' w' fun _ _ r => r = .bool (q x))) :
  Calls Tryz.prog 97 #[v, .func (.func g) #[] caps.toArray] w (Rets h w fun _ _ r => r = .bool (xs.any q)) := by
 refine (zgB (fun k h' w' => St h w h' w' [] ∧ k ≤ xs.length) (fun k => ((xs[k]?).map q).getD false) (fun k h' w' hk => ⟨hk.1.sub, hx.up hk.1.le⟩) ?_ hg ⟨St.start hs, Nat.zero_le _⟩).mono ?_
 ·rintro k x h' w' vs ⟨st, _⟩ hk hr u hu;refine (hf x h' w' vs st.le st.sub (List.mem_of_getElem? hk) hr u hu).mono ?_;rintro e w'' ⟨h'', r, rfl, s, rfl⟩;obtain ⟨hlt, _⟩ := List.getElem?_eq_some_iff.1 hk;exact ⟨h'', by simp [hk], st.call0 s, hlt⟩
 ·rintro e w' ⟨h', k, rfl, q1, q2, q3, q4⟩;refine ⟨h', _, rfl, q4.1, zy ?_⟩
  by_cases hlt : k < xs.length
  ·have h3 := q3 hlt;rw [List.getElem?_eq_getElem hlt] at h3;simp only [Option.map_some, Option.getD_some] at h3;have : xs.any q = true := List.any_eq_true.2 ⟨_, List.getElem_mem hlt, h3⟩;simp [hlt, this]
  ·have : xs.any q = false := by
    rw [List.any_eq_false];intro x hx';obtain ⟨j, hj⟩ := List.mem_iff_getElem?.1 hx';obtain ⟨h5, _⟩ := List.getElem?_eq_some_iff.1 hj;have := q2 j zr;simpa [hj] using this
   simp [hlt, this]

theorem zgO {xs : List Int} {v : Value} {g : FuncId} {caps : List Value} (S : Nat → Heap → World → Prop) (p : Nat → Bool)
  (hS : ∀ k h w, S k h w → Sub h w ∧ Sl LU8 h v xs)
  (hf : ∀ k x h w vs, S k h w → xs[k]? = some x → LU8.R h vs x → ∀ u, vs = [u] → Calls Tryz.prog g (u :: caps).toArray w (fun e w' => ∃ h', e = .returned (.bool (p k)) ∧ S (k + 1) h' w'))
  (hg : ∀ a w, (callFunc g a).run Tryz.prog w = .ok (.enter g a) w) {h : Heap} {w : World} (h0 : S 0 h w) :
  Calls Tryz.prog 160 #[v, .func (.func g) #[] caps.toArray] w (fun e w' => ∃ h' k, e = .returned (.int .i64 (if k < xs.length then (k : Int) else -1)) ∧ k ≤ xs.length ∧ (∀ j, j < k → p j = false) ∧ (k < xs.length → p k = true) ∧ S (if k < xs.length then k + 1 else k) h' w') := by
 refine zR (n := 19) Tryz.func160 X X X<|have hb:=(hS 0 h w h0).2.le;zd<|zw X X<|Y<|zo<|zd<|zY (v := v) X X<|zaP (hS 0 h w h0).2 X Tryz.underlying193 X<|zh X X<|Y<|zK ?_;refine zaB ([4, 5] ++ zcb 8 11) (G := Nat × Heap) (fun ⟨k, _⟩ => [(8, .int .i64 (k : Int))]) (fun ⟨k, h'⟩ w' => S k h' w' ∧ k ≤ xs.length ∧ ∀ j, j < k → p j = false) (fun ⟨k, _⟩ => xs.length - k) ⟨0, h⟩ ⟨rfl, trivial⟩ ⟨h0, by omega, by intros; omega⟩ ?_;rintro ⟨k, h1⟩ _ w1 ⟨hS1, hk, hp⟩;obtain ⟨hsub, hsl⟩ := hS k h1 w1 hS1;refine zd<|zaZ X X X<|Y<|zo ?_;refine zai rfl (fun c1 => ?_) (fun c1 => ?_)
 ·replace c1 := zha c1;refine zz<|E<|zo<|zK<|zd<|zh X X<|zw X X<|Y<|zd<|zhx X X<|zY (v := v) X X<|zh X X ?_;have hy : ∃ y, xs[k]? = some y := ⟨_, List.getElem?_eq_getElem zr⟩;obtain ⟨y, hy⟩ := hy;obtain ⟨b, o, vs, he, hc, hr⟩ := Sl.elem hsl hy;refine zW he X X (hk := X) (hu := Tryz.underlying193) (hz := zbl) X ?_;obtain ⟨u, rfl⟩ : ∃ u, vs = [u] := by
   have q := LU8.len hr
   match vs, q with
   | [u], _ => exact ⟨u, rfl⟩
  refine M (j := 0) hsub hc X X X zbQ X ?_;refine zaw rfl rfl (zbT (fs := []) (cs := caps) rfl rfl hg rfl) ((hf k y h1 w1 _ hS1 hy hr _ rfl).mono ?_);rintro e w2 ⟨h2, rfl, hS2⟩;refine ⟨_, rfl, ?_⟩;refine Y ?_;refine zai rfl (fun c2 => ?_) (fun c2 => ?_)
  ·refine zo ?_;refine zn<|zh X X<|zw X X<|Y<|zx ?_
   repeat (first | refine zD ?_ | refine zc ?_)
   refine zb Tryz.results160 ?_;have hlt : k < xs.length := by omega
   exact ⟨h2, k, by rw [if_pos hlt]; rfl, hk, hp, fun _ => c2, by rw [if_pos hlt]; exact hS2⟩
  ·refine zz ?_;refine zQ<|E<|zn ?_;refine zf rfl rfl (zjb rfl rfl zr) ?_;refine zh X X<|Y ?_;refine ⟨⟨k + 1, h2⟩, ⟨rfl, trivial⟩, ?_, ⟨hS2, by omega, ?_⟩, ?_⟩
   ·exact zas
   ·intro j hj
    rcases Nat.lt_or_ge j k with h3 | h3
    ·exact hp j h3
    ·obtain rfl : j = k := by omega
     exact c2
   ·show xs.length - (k + 1) < xs.length - k;omega
 ·replace c1 := zii c1;refine zaL<|zq<|zq<|zap<|E<|zd<|zw X X<|Y<|zx<|zb Tryz.results160 ?_;have hlt : ¬ k < xs.length := by omega
  exact ⟨h1, k, by rw [if_neg hlt]; rfl, hk, hp, fun q => absurd q hlt, by rw [if_neg hlt]; exact hS1⟩

theorem zgb {xs : List Int} {v : Value} {g : FuncId} {caps : List Value} (S : Nat → Heap → World → Prop) (p : Nat → Bool)
  (hS : ∀ k h w, S k h w → Sub h w ∧ Sl LU8 h v xs)
  (hf : ∀ k x h w vs, S k h w → xs[k]? = some x → LU8.R h vs x → ∀ u, vs = [u] → Calls Tryz.prog g (u :: caps).toArray w (fun e w' => ∃ h', e = .returned (.bool (p k)) ∧ S (k + 1) h' w'))
  (hg : ∀ a w, (callFunc g a).run Tryz.prog w = .ok (.enter g a) w) {h : Heap} {w : World} (h0 : S 0 h w) :
  Calls Tryz.prog 114 #[v, .func (.func g) #[] caps.toArray] w (fun e w' => ∃ h' k, e = .returned (.bool (decide (k < xs.length))) ∧ k ≤ xs.length ∧ (∀ j, j < k → p j = false) ∧ (k < xs.length → p k = true) ∧ S (if k < xs.length then k + 1 else k) h' w') := by
 refine zR (n := 9) Tryz.func114 X X X<|zd<|zF X X<|Y<|zd<|zY (v := v) X X<|zhx X X ?_;refine zaw rfl rfl (zaV rfl Tryz.call160 rfl) ((zgO S p hS hf hg h0).mono ?_);rintro e w2 ⟨h2, k, rfl, q1, q2, q3, q4⟩;refine ⟨_, rfl, ?_⟩;refine zig X X X<|zF X X<|Y<|zx<|zb Tryz.results114 ?_;refine ⟨h2, k, congrArg Ending.returned (zy ?_), q1, q2, q3, q4⟩
 by_cases hlt : k < xs.length
 ·simp [hlt]
 ·simp [hlt]
theorem zen {xs : List Int} {v : Value} {g : FuncId} {caps : List Value} {h : Heap} {w : World} (hs : Sub h w) (hx : Sl LU8 h v xs) (q : Int → Bool)
  (hg : ∀ a w, (callFunc g a).run Tryz.prog w = .ok (.enter g a) w)
  (hf : ∀ x h' w' vs, Le h h' → Sub h' w' → x ∈ xs → LU8.R h' vs x → ∀ u, vs = [u] → Calls Tryz.prog g (u :: caps).toArray w' (Rets h' w' fun _ _ r => r = .bool (q x))) :
  Calls Tryz.prog 114 #[v, .func (.func g) #[] caps.toArray] w (Rets h w fun _ _ r => r = .bool (xs.any q)) := by
 refine (zgb (fun k h' w' => St h w h' w' [] ∧ k ≤ xs.length) (fun k => ((xs[k]?).map q).getD false) (fun k h' w' hk => ⟨hk.1.sub, hx.up hk.1.le⟩) ?_ hg ⟨St.start hs, Nat.zero_le _⟩).mono ?_
 ·rintro k x h' w' vs ⟨st, _⟩ hk hr u hu;refine (hf x h' w' vs st.le st.sub (List.mem_of_getElem? hk) hr u hu).mono ?_;rintro e w'' ⟨h'', r, rfl, s, rfl⟩;obtain ⟨hlt, _⟩ := List.getElem?_eq_some_iff.1 hk;exact ⟨h'', by simp [hk], st.call0 s, hlt⟩
 ·rintro e w' ⟨h', k, rfl, q1, q2, q3, q4⟩;refine ⟨h', _, rfl, q4.1, zy ?_⟩
  by_cases hlt : k < xs.length
  ·have h3 := q3 hlt;rw [List.getElem?_eq_getElem hlt] at h3;simp only [Option.map_some, Option.getD_some] at h3;have : xs.any q = true := List.any_eq_true.2 ⟨_, List.getElem_mem hlt, h3⟩;simp [hlt, this]
  ·have : xs.any q = false := by
    rw [List.any_eq_false];intro x hx';obtain ⟨j, hj⟩ := List.mem_iff_getElem?.1 hx';obtain ⟨h5, _⟩ := List.getElem?_eq_some_iff.1 hj;have := q2 j zr;simpa [hj] using this
   simp [hlt, this]

theorem zdV {xs : List Str} {v : Value} {g : FuncId} {caps : List Value} (S : Nat → Heap → World → Prop) (p : Nat → Bool)
  (hS : ∀ k h w, S k h w → Sub h w ∧ Sl LStr h v xs)
  (hf : ∀ k x h w vs, S k h w → xs[k]? = some x → LStr.R h vs x → ∀ u, vs = [u] → Calls Tryz.prog g (u :: caps).toArray w (fun e w' => ∃ h', e = .returned (.bool (p k)) ∧ S (k + 1) h' w'))
  (hg : ∀ a w, (callFunc g a).run Tryz.prog w = .ok (.enter g a) w) {h : Heap} {w : World} (h0 : S 0 h w) :
  Calls Tryz.prog 105 #[v, .func (.func g) #[] caps.toArray] w (fun e w' => ∃ h' k, e = .returned (.int .i64 (if k < xs.length then (k : Int) else -1)) ∧ k ≤ xs.length ∧ (∀ j, j < k → p j = false) ∧ (k < xs.length → p k = true) ∧ S (if k < xs.length then k + 1 else k) h' w') := by
 refine zR (n := 19) Tryz.func105 X X X<|have hb:=(hS 0 h w h0).2.le;zd<|zw X X<|Y<|zo<|zd<|zY (v := v) X X<|zaP (hS 0 h w h0).2 X zV X<|zh X X<|Y<|zK ?_;refine zaB ([4, 5] ++ zcb 8 11) (G := Nat × Heap) (fun ⟨k, _⟩ => [(8, .int .i64 (k : Int))]) (fun ⟨k, h'⟩ w' => S k h' w' ∧ k ≤ xs.length ∧ ∀ j, j < k → p j = false) (fun ⟨k, _⟩ => xs.length - k) ⟨0, h⟩ ⟨rfl, trivial⟩ ⟨h0, by omega, by intros; omega⟩ ?_;rintro ⟨k, h1⟩ _ w1 ⟨hS1, hk, hp⟩;obtain ⟨hsub, hsl⟩ := hS k h1 w1 hS1;refine zd<|zaZ X X X<|Y<|zo ?_;refine zai rfl (fun c1 => ?_) (fun c1 => ?_)
 ·replace c1 := zha c1;refine zz<|E<|zo<|zK<|zd<|zh X X<|zw X X<|Y<|zd<|zhx X X<|zY (v := v) X X<|zh X X ?_;have hy : ∃ y, xs[k]? = some y := ⟨_, List.getElem?_eq_getElem zr⟩;obtain ⟨y, hy⟩ := hy;obtain ⟨b, o, vs, he, hc, hr⟩ := Sl.elem hsl hy;refine zW he X X (hk := X) (hu := zV) (hz := zal) X ?_;obtain ⟨u, rfl⟩ : ∃ u, vs = [u] := by
   have q := LStr.len hr
   match vs, q with
   | [u], _ => exact ⟨u, rfl⟩
  refine M (j := 0) hsub hc X X X zav X ?_;refine zaw rfl rfl (zbT (fs := []) (cs := caps) rfl rfl hg rfl) ((hf k y h1 w1 _ hS1 hy hr _ rfl).mono ?_);rintro e w2 ⟨h2, rfl, hS2⟩;refine ⟨_, rfl, ?_⟩;refine Y ?_;refine zai rfl (fun c2 => ?_) (fun c2 => ?_)
  ·refine zo ?_;refine zn<|zh X X<|zw X X<|Y<|zx ?_
   repeat (first | refine zD ?_ | refine zc ?_)
   refine zb Tryz.results105 ?_;have hlt : k < xs.length := by omega
   exact ⟨h2, k, by rw [if_pos hlt]; rfl, hk, hp, fun _ => c2, by rw [if_pos hlt]; exact hS2⟩
  ·refine zz ?_;refine zQ<|E<|zn ?_;refine zf rfl rfl (zjb rfl rfl zr) ?_;refine zh X X<|Y ?_;refine ⟨⟨k + 1, h2⟩, ⟨rfl, trivial⟩, ?_, ⟨hS2, by omega, ?_⟩, ?_⟩
   ·exact zas
   ·intro j hj
    rcases Nat.lt_or_ge j k with h3 | h3
    ·exact hp j h3
    ·obtain rfl : j = k := by omega
     exact c2
   ·show xs.length - (k + 1) < xs.length - k;omega
 ·replace c1 := zii c1;refine zaL<|zq<|zq<|zap<|E<|zd<|zw X X<|Y<|zx<|zb Tryz.results105 ?_;have hlt : ¬ k < xs.length := by omega
  exact ⟨h1, k, by rw [if_neg hlt]; rfl, hk, hp, fun q => absurd q hlt, by rw [if_neg hlt]; exact hS1⟩

theorem zfm {xs : List Str} {v : Value} {g : FuncId} {caps : List Value} (S : Nat → Heap → World → Prop) (p : Nat → Bool)
  (hS : ∀ k h w, S k h w → Sub h w ∧ Sl LStr h v xs)
  (hf : ∀ k x h w vs, S k h w → xs[k]? = some x → LStr.R h vs x → ∀ u, vs = [u] → Calls Tryz.prog g (u :: caps).toArray w (fun e w' => ∃ h', e = .returned (.bool (p k)) ∧ S (k + 1) h' w'))
  (hg : ∀ a w, (callFunc g a).run Tryz.prog w = .ok (.enter g a) w) {h : Heap} {w : World} (h0 : S 0 h w) :
  Calls Tryz.prog 150 #[v, .func (.func g) #[] caps.toArray] w (fun e w' => ∃ h' k, e = .returned (.bool (decide (k < xs.length))) ∧ k ≤ xs.length ∧ (∀ j, j < k → p j = false) ∧ (k < xs.length → p k = true) ∧ S (if k < xs.length then k + 1 else k) h' w') := by
 refine zR (n := 9) Tryz.func150 X X X<|zd<|zF X X<|Y<|zd<|zY (v := v) X X<|zhx X X ?_;refine zaw rfl rfl (zaV rfl Tryz.call105 rfl) ((zdV S p hS hf hg h0).mono ?_);rintro e w2 ⟨h2, k, rfl, q1, q2, q3, q4⟩;refine ⟨_, rfl, ?_⟩;refine zig X X X<|zF X X<|Y<|zx<|zb Tryz.results150 ?_;refine ⟨h2, k, congrArg Ending.returned (zy ?_), q1, q2, q3, q4⟩
 by_cases hlt : k < xs.length
 ·simp [hlt]
 ·simp [hlt]
theorem zfT {xs : List Str} {v : Value} {g : FuncId} {caps : List Value} {h : Heap} {w : World} (hs : Sub h w) (hx : Sl LStr h v xs) (q : Str → Bool)
  (hg : ∀ a w, (callFunc g a).run Tryz.prog w = .ok (.enter g a) w)
  (hf : ∀ x h' w' vs, Le h h' → Sub h' w' → x ∈ xs → LStr.R h' vs x → ∀ u, vs = [u] → Calls Tryz.prog g (u :: caps).toArray w' (Rets h' w' fun _ _ r => r = .bool (q x))) :
  Calls Tryz.prog 150 #[v, .func (.func g) #[] caps.toArray] w (Rets h w fun _ _ r => r = .bool (xs.any q)) := by
 refine (zfm (fun k h' w' => St h w h' w' [] ∧ k ≤ xs.length) (fun k => ((xs[k]?).map q).getD false) (fun k h' w' hk => ⟨hk.1.sub, hx.up hk.1.le⟩) ?_ hg ⟨St.start hs, Nat.zero_le _⟩).mono ?_
 ·rintro k x h' w' vs ⟨st, _⟩ hk hr u hu;refine (hf x h' w' vs st.le st.sub (List.mem_of_getElem? hk) hr u hu).mono ?_;rintro e w'' ⟨h'', r, rfl, s, rfl⟩;obtain ⟨hlt, _⟩ := List.getElem?_eq_some_iff.1 hk;exact ⟨h'', by simp [hk], st.call0 s, hlt⟩
 ·rintro e w' ⟨h', k, rfl, q1, q2, q3, q4⟩;refine ⟨h', _, rfl, q4.1, zy ?_⟩
  by_cases hlt : k < xs.length
  ·have h3 := q3 hlt;rw [List.getElem?_eq_getElem hlt] at h3;simp only [Option.map_some, Option.getD_some] at h3;have : xs.any q = true := List.any_eq_true.2 ⟨_, List.getElem_mem hlt, h3⟩;simp [hlt, this]
  ·have : xs.any q = false := by
    rw [List.any_eq_false];intro x hx';obtain ⟨j, hj⟩ := List.mem_iff_getElem?.1 hx';obtain ⟨h5, _⟩ := List.getElem?_eq_some_iff.1 hj;have := q2 j zr;simpa [hj] using this
   simp [hlt, this]

theorem zfe {xs : List Rule} {v : Value} {g : FuncId} {caps : List Value} (S : Nat → Heap → World → Prop) (p : Nat → Bool)
  (hS : ∀ k h w, S k h w → Sub h w ∧ Sl LRule h v xs)
  (hf : ∀ k x h w vs, S k h w → xs[k]? = some x → LRule.R h vs x → ∀ u, u = .agg vs.toArray → Calls Tryz.prog g (u :: caps).toArray w (fun e w' => ∃ h', e = .returned (.bool (p k)) ∧ S (k + 1) h' w'))
  (hg : ∀ a w, (callFunc g a).run Tryz.prog w = .ok (.enter g a) w) {h : Heap} {w : World} (h0 : S 0 h w) :
  Calls Tryz.prog 197 #[v, .func (.func g) #[] caps.toArray] w (fun e w' => ∃ h' k, e = .returned (.int .i64 (if k < xs.length then (k : Int) else -1)) ∧ k ≤ xs.length ∧ (∀ j, j < k → p j = false) ∧ (k < xs.length → p k = true) ∧ S (if k < xs.length then k + 1 else k) h' w') := by
 refine zR (n := 19) Tryz.func197 X X X<|have hb:=(hS 0 h w h0).2.le;zd<|zw X X<|Y<|zo<|zd<|zY (v := v) X X<|zaP (hS 0 h w h0).2 X zbK X<|zh X X<|Y<|zK ?_;refine zaB ([4, 5] ++ zcb 8 11) (G := Nat × Heap) (fun ⟨k, _⟩ => [(8, .int .i64 (k : Int))]) (fun ⟨k, h'⟩ w' => S k h' w' ∧ k ≤ xs.length ∧ ∀ j, j < k → p j = false) (fun ⟨k, _⟩ => xs.length - k) ⟨0, h⟩ ⟨rfl, trivial⟩ ⟨h0, by omega, by intros; omega⟩ ?_;rintro ⟨k, h1⟩ _ w1 ⟨hS1, hk, hp⟩;obtain ⟨hsub, hsl⟩ := hS k h1 w1 hS1;refine zd<|zaZ X X X<|Y<|zo ?_;refine zai rfl (fun c1 => ?_) (fun c1 => ?_)
 ·replace c1 := zha c1;refine zz<|E<|zo<|zK<|zd<|zh X X<|zw X X<|Y<|zd<|zhx X X<|zY (v := v) X X<|zh X X ?_;have hy : ∃ y, xs[k]? = some y := ⟨_, List.getElem?_eq_getElem zr⟩;obtain ⟨y, hy⟩ := hy;obtain ⟨b, o, vs, he, hc, hr⟩ := Sl.elem hsl hy;refine zW he X X (hk := X) (hu := zbK) (hz := zdI) X<|zt hsub hc X Tryz.isAgg122 zdI (LRule.len hr) X ?_;refine zaw rfl rfl (zbT (fs := []) (cs := caps) rfl rfl hg rfl) ((hf k y h1 w1 _ hS1 hy hr _ rfl).mono ?_);rintro e w2 ⟨h2, rfl, hS2⟩;refine ⟨_, rfl, ?_⟩;refine Y ?_;refine zai rfl (fun c2 => ?_) (fun c2 => ?_)
  ·refine zo ?_;refine zn<|zh X X<|zw X X<|Y<|zx ?_
   repeat (first | refine zD ?_ | refine zc ?_)
   refine zb Tryz.results197 ?_;have hlt : k < xs.length := by omega
   exact ⟨h2, k, by rw [if_pos hlt]; rfl, hk, hp, fun _ => c2, by rw [if_pos hlt]; exact hS2⟩
  ·refine zz ?_;refine zQ<|E<|zn ?_;refine zf rfl rfl (zjb rfl rfl zr) ?_;refine zh X X<|Y ?_;refine ⟨⟨k + 1, h2⟩, ⟨rfl, trivial⟩, ?_, ⟨hS2, by omega, ?_⟩, ?_⟩
   ·exact zas
   ·intro j hj
    rcases Nat.lt_or_ge j k with h3 | h3
    ·exact hp j h3
    ·obtain rfl : j = k := by omega
     exact c2
   ·show xs.length - (k + 1) < xs.length - k;omega
 ·replace c1 := zii c1;refine zaL<|zq<|zq<|zap<|E<|zd<|zw X X<|Y<|zx<|zb Tryz.results197 ?_;have hlt : ¬ k < xs.length := by omega
  exact ⟨h1, k, by rw [if_neg hlt]; rfl, hk, hp, fun q => absurd q hlt, by rw [if_neg hlt]; exact hS1⟩

theorem zeE {xs : List Rule} {v : Value} {g : FuncId} {caps : List Value} (S : Nat → Heap → World → Prop) (p : Nat → Bool)
  (hS : ∀ k h w, S k h w → Sub h w ∧ Sl LRule h v xs)
  (hf : ∀ k x h w vs, S k h w → xs[k]? = some x → LRule.R h vs x → ∀ u, u = .agg vs.toArray → Calls Tryz.prog g (u :: caps).toArray w (fun e w' => ∃ h', e = .returned (.bool (p k)) ∧ S (k + 1) h' w'))
  (hg : ∀ a w, (callFunc g a).run Tryz.prog w = .ok (.enter g a) w) {h : Heap} {w : World} (h0 : S 0 h w) :
  Calls Tryz.prog 153 #[v, .func (.func g) #[] caps.toArray] w (fun e w' => ∃ h' k, e = .returned (.bool (decide (k < xs.length))) ∧ k ≤ xs.length ∧ (∀ j, j < k → p j = false) ∧ (k < xs.length → p k = true) ∧ S (if k < xs.length then k + 1 else k) h' w') := by
 refine zR (n := 9) Tryz.func153 X X X<|zd<|zF X X<|Y<|zd<|zY (v := v) X X<|zhx X X ?_;refine zaw rfl rfl (zaV rfl Tryz.call197 rfl) ((zfe S p hS hf hg h0).mono ?_);rintro e w2 ⟨h2, k, rfl, q1, q2, q3, q4⟩;refine ⟨_, rfl, ?_⟩;refine zig X X X<|zF X X<|Y<|zx<|zb Tryz.results153 ?_;refine ⟨h2, k, congrArg Ending.returned (zy ?_), q1, q2, q3, q4⟩
 by_cases hlt : k < xs.length
 ·simp [hlt]
 ·simp [hlt]
theorem zeg {xs : List Decision} {v : Value} {g : FuncId} {caps : List Value} (S : Nat → Heap → World → Prop) (p : Nat → Bool)
  (hS : ∀ k h w, S k h w → Sub h w ∧ Sl LDecision h v xs)
  (hf : ∀ k x h w vs, S k h w → xs[k]? = some x → LDecision.R h vs x → ∀ u, u = .agg vs.toArray → Calls Tryz.prog g (u :: caps).toArray w (fun e w' => ∃ h', e = .returned (.bool (p k)) ∧ S (k + 1) h' w'))
  (hg : ∀ a w, (callFunc g a).run Tryz.prog w = .ok (.enter g a) w) {h : Heap} {w : World} (h0 : S 0 h w) :
  Calls Tryz.prog 199 #[v, .func (.func g) #[] caps.toArray] w (fun e w' => ∃ h' k, e = .returned (.int .i64 (if k < xs.length then (k : Int) else -1)) ∧ k ≤ xs.length ∧ (∀ j, j < k → p j = false) ∧ (k < xs.length → p k = true) ∧ S (if k < xs.length then k + 1 else k) h' w') := by
 refine zR (n := 19) Tryz.func199 X X X<|have hb:=(hS 0 h w h0).2.le;zd<|zw X X<|Y<|zo<|zd<|zY (v := v) X X<|zaP (hS 0 h w h0).2 X zaN X<|zh X X<|Y<|zK ?_;refine zaB ([4, 5] ++ zcb 8 11) (G := Nat × Heap) (fun ⟨k, _⟩ => [(8, .int .i64 (k : Int))]) (fun ⟨k, h'⟩ w' => S k h' w' ∧ k ≤ xs.length ∧ ∀ j, j < k → p j = false) (fun ⟨k, _⟩ => xs.length - k) ⟨0, h⟩ ⟨rfl, trivial⟩ ⟨h0, by omega, by intros; omega⟩ ?_;rintro ⟨k, h1⟩ _ w1 ⟨hS1, hk, hp⟩;obtain ⟨hsub, hsl⟩ := hS k h1 w1 hS1;refine zd<|zaZ X X X<|Y<|zo ?_;refine zai rfl (fun c1 => ?_) (fun c1 => ?_)
 ·replace c1 := zha c1;refine zz<|E<|zo<|zK<|zd<|zh X X<|zw X X<|Y<|zd<|zhx X X<|zY (v := v) X X<|zh X X ?_;have hy : ∃ y, xs[k]? = some y := ⟨_, List.getElem?_eq_getElem zr⟩;obtain ⟨y, hy⟩ := hy;obtain ⟨b, o, vs, he, hc, hr⟩ := Sl.elem hsl hy;refine zW he X X (hk := X) (hu := zaN) (hz := zaa) X<|zt hsub hc X zaT zaa (LDecision.len hr) X ?_;refine zaw rfl rfl (zbT (fs := []) (cs := caps) rfl rfl hg rfl) ((hf k y h1 w1 _ hS1 hy hr _ rfl).mono ?_);rintro e w2 ⟨h2, rfl, hS2⟩;refine ⟨_, rfl, ?_⟩;refine Y ?_;refine zai rfl (fun c2 => ?_) (fun c2 => ?_)
  ·refine zo ?_;refine zn<|zh X X<|zw X X<|Y<|zx ?_
   repeat (first | refine zD ?_ | refine zc ?_)
   refine zb Tryz.results199 ?_;have hlt : k < xs.length := by omega
   exact ⟨h2, k, by rw [if_pos hlt]; rfl, hk, hp, fun _ => c2, by rw [if_pos hlt]; exact hS2⟩
  ·refine zz ?_;refine zQ<|E<|zn ?_;refine zf rfl rfl (zjb rfl rfl zr) ?_;refine zh X X<|Y ?_;refine ⟨⟨k + 1, h2⟩, ⟨rfl, trivial⟩, ?_, ⟨hS2, by omega, ?_⟩, ?_⟩
   ·exact zas
   ·intro j hj
    rcases Nat.lt_or_ge j k with h3 | h3
    ·exact hp j h3
    ·obtain rfl : j = k := by omega
     exact c2
   ·show xs.length - (k + 1) < xs.length - k;omega
 ·replace c1 := zii c1;refine zaL<|zq<|zq<|zap<|E<|zd<|zw X X<|Y<|zx<|zb Tryz.results199 ?_;have hlt : ¬ k < xs.length := by omega
  exact ⟨h1, k, by rw [if_neg hlt]; rfl, hk, hp, fun q => absurd q hlt, by rw [if_neg hlt]; exact hS1⟩

theorem zea {xs : List Decision} {v : Value} {g : FuncId} {caps : List Value} (S : Nat → Heap → World → Prop) (p : Nat → Bool)
  (hS : ∀ k h w, S k h w → Sub h w ∧ Sl LDecision h v xs)
  (hf : ∀ k x h w vs, S k h w → xs[k]? = some x → LDecision.R h vs x → ∀ u, u = .agg vs.toArray → Calls Tryz.prog g (u :: caps).toArray w (fun e w' => ∃ h', e = .returned (.bool (p k)) ∧ S (k + 1) h' w'))
  (hg : ∀ a w, (callFunc g a).run Tryz.prog w = .ok (.enter g a) w) {h : Heap} {w : World} (h0 : S 0 h w) :
  Calls Tryz.prog 158 #[v, .func (.func g) #[] caps.toArray] w (fun e w' => ∃ h' k, e = .returned (.bool (decide (k < xs.length))) ∧ k ≤ xs.length ∧ (∀ j, j < k → p j = false) ∧ (k < xs.length → p k = true) ∧ S (if k < xs.length then k + 1 else k) h' w') := by
 refine zR (n := 9) Tryz.func158 X X X<|zd<|zF X X<|Y<|zd<|zY (v := v) X X<|zhx X X ?_;refine zaw rfl rfl (zaV rfl Tryz.call199 rfl) ((zeg S p hS hf hg h0).mono ?_);rintro e w2 ⟨h2, k, rfl, q1, q2, q3, q4⟩;refine ⟨_, rfl, ?_⟩;refine zig X X X<|zF X X<|Y<|zx<|zb Tryz.results158 ?_;refine ⟨h2, k, congrArg Ending.returned (zy ?_), q1, q2, q3, q4⟩
 by_cases hlt : k < xs.length
 ·simp [hlt]
 ·simp [hlt]
theorem zeJ {xs : List Voter} {v : Value} {g : FuncId} {caps : List Value} (S : Nat → Heap → World → Prop) (p : Nat → Bool)
  (hS : ∀ k h w, S k h w → Sub h w ∧ Sl LVoter h v xs)
  (hf : ∀ k x h w vs, S k h w → xs[k]? = some x → LVoter.R h vs x → ∀ u, u = .agg vs.toArray → Calls Tryz.prog g (u :: caps).toArray w (fun e w' => ∃ h', e = .returned (.bool (p k)) ∧ S (k + 1) h' w'))
  (hg : ∀ a w, (callFunc g a).run Tryz.prog w = .ok (.enter g a) w) {h : Heap} {w : World} (h0 : S 0 h w) :
  Calls Tryz.prog 242 #[v, .func (.func g) #[] caps.toArray] w (fun e w' => ∃ h' k, e = .returned (.int .i64 (if k < xs.length then (k : Int) else -1)) ∧ k ≤ xs.length ∧ (∀ j, j < k → p j = false) ∧ (k < xs.length → p k = true) ∧ S (if k < xs.length then k + 1 else k) h' w') := by
 refine zR (n := 19) Tryz.func242 X X X<|have hb:=(hS 0 h w h0).2.le;zd<|zw X X<|Y<|zo<|zd<|zY (v := v) X X<|zaP (hS 0 h w h0).2 X zaK X<|zh X X<|Y<|zK ?_;refine zaB ([4, 5] ++ zcb 8 11) (G := Nat × Heap) (fun ⟨k, _⟩ => [(8, .int .i64 (k : Int))]) (fun ⟨k, h'⟩ w' => S k h' w' ∧ k ≤ xs.length ∧ ∀ j, j < k → p j = false) (fun ⟨k, _⟩ => xs.length - k) ⟨0, h⟩ ⟨rfl, trivial⟩ ⟨h0, by omega, by intros; omega⟩ ?_;rintro ⟨k, h1⟩ _ w1 ⟨hS1, hk, hp⟩;obtain ⟨hsub, hsl⟩ := hS k h1 w1 hS1;refine zd<|zaZ X X X<|Y<|zo ?_;refine zai rfl (fun c1 => ?_) (fun c1 => ?_)
 ·replace c1 := zha c1;refine zz<|E<|zo<|zK<|zd<|zh X X<|zw X X<|Y<|zd<|zhx X X<|zY (v := v) X X<|zh X X ?_;have hy : ∃ y, xs[k]? = some y := ⟨_, List.getElem?_eq_getElem zr⟩;obtain ⟨y, hy⟩ := hy;obtain ⟨b, o, vs, he, hc, hr⟩ := Sl.elem hsl hy;refine zW he X X (hk := X) (hu := zaK) (hz := zbM) X<|zt hsub hc X Tryz.isAgg58 zbM (LVoter.len hr) X ?_;refine zaw rfl rfl (zbT (fs := []) (cs := caps) rfl rfl hg rfl) ((hf k y h1 w1 _ hS1 hy hr _ rfl).mono ?_);rintro e w2 ⟨h2, rfl, hS2⟩;refine ⟨_, rfl, ?_⟩;refine Y ?_;refine zai rfl (fun c2 => ?_) (fun c2 => ?_)
  ·refine zo ?_;refine zn<|zh X X<|zw X X<|Y<|zx ?_
   repeat (first | refine zD ?_ | refine zc ?_)
   refine zb Tryz.results242 ?_;have hlt : k < xs.length := by omega
   exact ⟨h2, k, by rw [if_pos hlt]; rfl, hk, hp, fun _ => c2, by rw [if_pos hlt]; exact hS2⟩
  ·refine zz ?_;refine zQ<|E<|zn ?_;refine zf rfl rfl (zjb rfl rfl zr) ?_;refine zh X X<|Y ?_;refine ⟨⟨k + 1, h2⟩, ⟨rfl, trivial⟩, ?_, ⟨hS2, by omega, ?_⟩, ?_⟩
   ·exact zas
   ·intro j hj
    rcases Nat.lt_or_ge j k with h3 | h3
    ·exact hp j h3
    ·obtain rfl : j = k := by omega
     exact c2
   ·show xs.length - (k + 1) < xs.length - k;omega
 ·replace c1 := zii c1;refine zaL<|zq<|zq<|zap<|E<|zd<|zw X X<|Y<|zx<|zb Tryz.results242 ?_;have hlt : ¬ k < xs.length := by omega
  exact ⟨h1, k, by rw [if_neg hlt]; rfl, hk, hp, fun q => absurd q hlt, by rw [if_neg hlt]; exact hS1⟩

theorem zew {xs : List Voter} {v : Value} {g : FuncId} {caps : List Value} (S : Nat → Heap → World → Prop) (p : Nat → Bool)
  (hS : ∀ k h w, S k h w → Sub h w ∧ Sl LVoter h v xs)
  (hf : ∀ k x h w vs, S k h w → xs[k]? = some x → LVoter.R h vs x → ∀ u, u = .agg vs.toArray → Calls Tryz.prog g (u :: caps).toArray w (fun e w' => ∃ h', e = .returned (.bool (p k)) ∧ S (k + 1) h' w'))
  (hg : ∀ a w, (callFunc g a).run Tryz.prog w = .ok (.enter g a) w) {h : Heap} {w : World} (h0 : S 0 h w) :
  Calls Tryz.prog 240 #[v, .func (.func g) #[] caps.toArray] w (fun e w' => ∃ h' k, e = .returned (.bool (decide (k < xs.length))) ∧ k ≤ xs.length ∧ (∀ j, j < k → p j = false) ∧ (k < xs.length → p k = true) ∧ S (if k < xs.length then k + 1 else k) h' w') := by
 refine zR (n := 9) Tryz.func240 X X X<|zd<|zF X X<|Y<|zd<|zY (v := v) X X<|zhx X X ?_;refine zaw rfl rfl (zaV rfl Tryz.call242 rfl) ((zeJ S p hS hf hg h0).mono ?_);rintro e w2 ⟨h2, k, rfl, q1, q2, q3, q4⟩;refine ⟨_, rfl, ?_⟩;refine zig X X X<|zF X X<|Y<|zx<|zb Tryz.results240 ?_;refine ⟨h2, k, congrArg Ending.returned (zy ?_), q1, q2, q3, q4⟩
 by_cases hlt : k < xs.length
 ·simp [hlt]
 ·simp [hlt]
theorem zeK {xs : List Voter} {v : Value} {g : FuncId} {caps : List Value} {h : Heap} {w : World} (hs : Sub h w) (hx : Sl LVoter h v xs) (q : Voter → Bool)
  (hg : ∀ a w, (callFunc g a).run Tryz.prog w = .ok (.enter g a) w)
  (hf : ∀ x h' w' vs, Le h h' → Sub h' w' → x ∈ xs → LVoter.R h' vs x → ∀ u, u = .agg vs.toArray → Calls Tryz.prog g (u :: caps).toArray w' (Rets h' w' fun _ _ r => r = .bool (q x))) :
  Calls Tryz.prog 240 #[v, .func (.func g) #[] caps.toArray] w (Rets h w fun _ _ r => r = .bool (xs.any q)) := by
 refine (zew (fun k h' w' => St h w h' w' [] ∧ k ≤ xs.length) (fun k => ((xs[k]?).map q).getD false) (fun k h' w' hk => ⟨hk.1.sub, hx.up hk.1.le⟩) ?_ hg ⟨St.start hs, Nat.zero_le _⟩).mono ?_
 ·rintro k x h' w' vs ⟨st, _⟩ hk hr u hu;refine (hf x h' w' vs st.le st.sub (List.mem_of_getElem? hk) hr u hu).mono ?_;rintro e w'' ⟨h'', r, rfl, s, rfl⟩;obtain ⟨hlt, _⟩ := List.getElem?_eq_some_iff.1 hk;exact ⟨h'', by simp [hk], st.call0 s, hlt⟩
 ·rintro e w' ⟨h', k, rfl, q1, q2, q3, q4⟩;refine ⟨h', _, rfl, q4.1, zy ?_⟩
  by_cases hlt : k < xs.length
  ·have h3 := q3 hlt;rw [List.getElem?_eq_getElem hlt] at h3;simp only [Option.map_some, Option.getD_some] at h3;have : xs.any q = true := List.any_eq_true.2 ⟨_, List.getElem_mem hlt, h3⟩;simp [hlt, this]
  ·have : xs.any q = false := by
    rw [List.any_eq_false];intro x hx';obtain ⟨j, hj⟩ := List.mem_iff_getElem?.1 hx';obtain ⟨h5, _⟩ := List.getElem?_eq_some_iff.1 hj;have := q2 j zr;simpa [hj] using this
   simp [hlt, this]
end Go.Pk

namespace Go.Pk
open Go Go.RowKit Go.Proofs
theorem c_leaf_in_1 {h : Heap} {w : World} (hs : Sub h w) (n : Int) {lo_b : Nat} {lo : Int} (lo_c : Cells h lo_b 0 [.int .i64 lo]) {hi_b : Nat} {hi : Int} (hi_c : Cells h hi_b 0 [.int .i64 hi]) : Calls Tryz.prog 179 #[.int .i64 n, .pointer (some ⟨lo_b, 0, none⟩), .pointer (some ⟨hi_b, 0, none⟩)] w (Rets h w (fun _ _ res_ => res_ = .bool ((decide (n < lo) || decide (hi < n))))) := by
 refine zR (n := 13) Tryz.func179 X X X<|have st0:=zbg hs;zd<|zF X X<|Y<|zd<|zh X X<|M (j := 0) st0.sub lo_c X X X zB X<|zaZ X X X<|zX X X ?_;refine zae (d := 8) rfl (fun g1 => ?_) (fun g1 => ?_)
 ·refine zM 3 X<|zP (v := (.bool _)) X X X<|zF X X<|Y<|zx<|zb Tryz.results179 ?_;refine ⟨h, _, rfl, st0.done, ?_⟩;refine zy ?_
  first | (simp_all; done) | (simp_all; omega)
 refine Z X X X<|zh X X<|Z X X X<|M (j := 0) st0.sub hi_c X X X zB X<|Z X X X<|zdF X X X<|zO (v := (.bool _)) X X X<|zF X X<|Y<|zx<|zb Tryz.results179 ?_;refine ⟨h, _, rfl, st0.done, ?_⟩;refine zy ?_
 first | (simp_all; done) | (simp_all; omega)
theorem zfH {h : Heap} {w : World} (hs : Sub h w) (lo : Int) (hi : Int) {all__v : Value} {all_ : (List Int)} (all__f : Sl LInt h all__v all_) : Calls Tryz.prog 125 #[.int .i64 lo, .int .i64 hi, all__v] w (Rets h w (fun _ _ res_ => res_ = .bool (zcK all_ lo hi))) := by
 refine zR (n := 11) Tryz.func125 X X X<|have st0:=zbg hs;have all__f_b:=all__f.le;zd<|zH st0 (cs := [.int .i64 lo]) X X X<|fun b1 w2 h3 le4 hc5 st6=>zH st6 (cs := [.int .i64 hi]) X X X<|fun b7 w8 h9 le10 hc11 st12=>zF X X<|Y<|zd<|zY (v := all__v) X X<|zcG X X X ?_;have l13 := le4.t le10;refine zg st12 rfl rfl rfl Tryz.call97 rfl (zdA st12.sub (all__f.up l13) (fun x_ => (decide ((x_) < (lo)) || decide ((hi) < (x_)))) Tryz.call179 (fun x_ h_ w_ vs_ le_ hs_ hx_ hr_ u_ hu_ => by cases hu_; cases hr_; exact c_leaf_in_1 hs_ _ (lo := lo) ((hc5.up le10).up le_) (hi := hi) (hc11.up le_))) ?_;intro r14 w15 h16 le17 st18 q19;subst q19;refine zbu X X<|zF X X<|Y<|zx<|zb Tryz.results125 ?_;refine ⟨h16, _, rfl, st18.done, ?_⟩;refine zy ?_;exact inAll_eq all_ lo hi
theorem c_stem_in_1 {h : Heap} {w : World} (hs : Sub h w) (n : Int) {lo_b : Nat} {lo : Int} (lo_c : Cells h lo_b 0 [.int .i64 lo]) {hi_b : Nat} {hi : Int} (hi_c : Cells h hi_b 0 [.int .i64 hi]) : Calls Tryz.prog 157 #[.int .i64 n, .pointer (some ⟨lo_b, 0, none⟩), .pointer (some ⟨hi_b, 0, none⟩)] w (Rets h w (fun _ _ res_ => res_ = .bool ((decide (n < lo) || decide (hi < n))))) := by
 refine zR (n := 13) Tryz.func157 X X X<|have st0:=zbg hs;zd<|zF X X<|Y<|zd<|zh X X<|M (j := 0) st0.sub lo_c X X X zB X<|zaZ X X X<|zX X X ?_;refine zae (d := 8) rfl (fun g1 => ?_) (fun g1 => ?_)
 ·refine zM 3 X<|zP (v := (.bool _)) X X X<|zF X X<|Y<|zx<|zb Tryz.results157 ?_;refine ⟨h, _, rfl, st0.done, ?_⟩;refine zy ?_
  first | (simp_all; done) | (simp_all; omega)
 refine Z X X X<|zh X X<|Z X X X<|M (j := 0) st0.sub hi_c X X X zB X<|Z X X X<|zdF X X X<|zO (v := (.bool _)) X X X<|zF X X<|Y<|zx<|zb Tryz.results157 ?_;refine ⟨h, _, rfl, st0.done, ?_⟩;refine zy ?_
 first | (simp_all; done) | (simp_all; omega)
theorem zjj {h : Heap} {w : World} (hs : Sub h w) (lo : Int) (hi : Int) {all__v : Value} {all_ : (List Int)} (all__f : Sl LInt h all__v all_) : Calls Tryz.prog 110 #[.int .i64 lo, .int .i64 hi, all__v] w (Rets h w (fun _ _ res_ => res_ = .bool (zcK all_ lo hi))) := by
 refine zR (n := 11) Tryz.func110 X X X<|have st0:=zbg hs;have all__f_b:=all__f.le;zd<|zH st0 (cs := [.int .i64 lo]) X X X<|fun b1 w2 h3 le4 hc5 st6=>zH st6 (cs := [.int .i64 hi]) X X X<|fun b7 w8 h9 le10 hc11 st12=>zF X X<|Y<|zd<|zY (v := all__v) X X<|zcG X X X ?_;have l13 := le4.t le10;refine zg st12 rfl rfl rfl Tryz.call97 rfl (zdA st12.sub (all__f.up l13) (fun x_ => (decide ((x_) < (lo)) || decide ((hi) < (x_)))) Tryz.call157 (fun x_ h_ w_ vs_ le_ hs_ hx_ hr_ u_ hu_ => by cases hu_; cases hr_; exact c_stem_in_1 hs_ _ (lo := lo) ((hc5.up le10).up le_) (hi := hi) (hc11.up le_))) ?_;intro r14 w15 h16 le17 st18 q19;subst q19;refine zbu X X<|zF X X<|Y<|zx<|zb Tryz.results110 ?_;refine ⟨h16, _, rfl, st18.done, ?_⟩;refine zy ?_;exact inAll_eq all_ lo hi
theorem c_leaf_word_1 {h : Heap} {w : World} (hs : Sub h w) (b : Int) (b_l : 0 ≤ b ∧ b ≤ 255) : Calls Tryz.prog 196 #[.int .u8 b] w (Rets h w (fun _ _ res_ => res_ = .bool ((decide (b < 97) || decide (122 < b))))) := by
 refine zR (n := 9) Tryz.func196 X X X<|have st0:=zbg hs;zd<|zF X X<|Y<|zd<|zh X X<|zaZ X X X<|zX X X ?_;refine zae (d := 5) rfl (fun g1 => ?_) (fun g1 => ?_)
 ·refine zM 2 X<|zP (v := (.bool _)) X X X<|zF X X<|Y<|zx<|zb Tryz.results196 ?_;refine ⟨h, _, rfl, st0.done, ?_⟩;refine zy ?_
  first | (simp_all; done) | (simp_all; omega)
 refine Z X X X<|zh X X<|Z X X X<|zdF X X X<|zO (v := (.bool _)) X X X<|zF X X<|Y<|zx<|zb Tryz.results196 ?_;refine ⟨h, _, rfl, st0.done, ?_⟩;refine zy ?_
 first | (simp_all; done) | (simp_all; omega)
theorem c_leaf_word {h : Heap} {w : World} (hs : Sub h w) (s : Str) (s_le : s.length ≤ 281474976710656) : Calls Tryz.prog 152 #[zN s] w (Rets h w (fun _ _ res_ => res_ = .bool (zdK s))) := by
 refine zR (n := 13) Tryz.func152 X X X<|have st0:=zbg hs;zd<|zF X X<|Y<|zd<|zch X X<|zcv X zat X<|zam (L := LInt) (xs := [(s.length : Int)]) (cs := [.int .i64 (s.length : Int)]) st0 (Enc.cons (L := LInt) (vs := [.int .i64 (s.length : Int)]) (x := (s.length : Int)) (h := h) (X) Enc.nil) X X X zj Tryz.info3 X X X O<|fun v1 w2 h5 le6 f3 st4=>zg st4 X X X zfN X (zfH st4.sub _ _ f3)<|fun r7 w8 h9 le10 st11 q12=> ?_;subst q12;refine zX X X ?_;refine zaA (d := 7) rfl (fun g13 => ?_) (fun g13 => ?_)
 ·refine Z X X X<|zch X X<|Z X X X ?_;refine OpsL.strBytes st11 (s := s) rfl (by first | assumption | omega | (simp; omega)) rfl zat Tryz.underlying193 Tryz.underlying5 zbl ?_;intro v14 w15 h16 le17 f18 st19;refine Z X X X ?_;refine zg st19 rfl rfl rfl Tryz.call114 rfl (zen st19.sub f18 (fun x_ => (decide ((x_) < 97) || decide (122 < (x_)))) Tryz.call196 (fun x_ h_ w_ vs_ le_ hs_ hx_ hr_ u_ hu_ => by cases hu_; obtain ⟨hr1_, hr2_⟩ := hr_; cases hr1_; exact c_leaf_word_1 hs_ _ hr2_)) ?_;intro r20 w21 h22 le23 st24 q25;subst q25;refine Z X X X<|zbu X X<|zP (v := (.bool _)) X X X<|zF X X<|Y<|zx<|zb Tryz.results152 ?_;refine ⟨h22, _, rfl, st24.done, ?_⟩;refine zy ?_;simp_all [wordB_eq]
 refine zM 4 X<|zO (v := (.bool _)) X X X<|zF X X<|Y<|zx<|zb Tryz.results152 ?_;refine ⟨h9, _, rfl, st11.done, ?_⟩;refine zy ?_;simp_all [wordB_eq]
theorem c_leaf_Check_1 {h : Heap} {w : World} (hs : Sub h w) (s : Str) (s_le : s.length ≤ 281474976710656) : Calls Tryz.prog 151 #[zN s] w (Rets h w (fun _ _ res_ => res_ = .bool ((!zdK s)))) := by
 refine zR (n := 6) Tryz.func151 X X X<|have st0:=zbg hs;zd<|zF X X<|Y<|zd<|zch X X<|zg st0 X X X Tryz.call152 X (c_leaf_word st0.sub _ zbj)<|fun r1 w2 h3 le4 st5 q6=> ?_;subst q6;refine zbu X X<|zF X X<|Y<|zx<|zb Tryz.results151 ?_;refine ⟨h3, _, rfl, st5.done, ?_⟩;refine zy ?_;rfl
theorem c_leaf_Check {h : Heap} {w : World} (hs : Sub h w) {t : Text} {t_v0 : Value} (t_f0 : Sl LChapter h t_v0 t.chapters) : Calls Tryz.prog 106 #[.agg #[t_v0]] w (Rets h w (fun _ _ res_ => res_ = .int .i64 ((if zbc t then 0 else 10)))) := by
 refine zR (n := 64) Tryz.func106 X X X<|have st0:=zbg hs;have t_f0_b:=t_f0.le;zd<|zH st0 (cs := [t_v0]) X X X<|fun b1 w2 h3 le4 hc5 st6=>zw X X<|Y<|W.scope<|zo<|zd<|U X zbb X zbV X X<|M (j := 0) st6.sub hc5 X X X zcp X<|zaP (t_f0.up le4) X zaO X<|zam (L := LInt) (xs := [(t.chapters.length : Int)]) (cs := [.int .i64 (t.chapters.length : Int)]) st6 (Enc.cons (L := LInt) (vs := [.int .i64 (t.chapters.length : Int)]) (x := (t.chapters.length : Int)) (h := h3) (X) Enc.nil) X X X zj Tryz.info3 X X X O<|fun v7 w8 h11 le12 f9 st10=>zg st10 X X X zfN X (zfH st10.sub _ _ f9)<|fun r13 w14 h15 le16 st17 q18=> ?_;subst q18;refine zbu X X<|Y ?_;refine zai rfl (fun c19 => ?_) (fun c19 => ?_)
 ·refine zd<|zw X X<|Y<|zx<|zc<|zeD<|zb zeP ?_;refine ⟨h15, _, rfl, st17.done, ?_⟩;refine zaf ?_;simp_all [zbc]
 refine zz<|E<|zd<|zw X X<|Y<|zd<|zfP (κ := Int) (υ := Bool) (ek := (fun n : Int => .int .i64 n)) (eu := (fun b : Bool => .bool b)) st17 X<|fun v20 o21 w22 f23 st24=> ?_;obtain ⟨mb25, rfl⟩ := f23.form;have nd26 : (([] : List (Int × Bool)).map (·.1)).Nodup := by simp
 refine zag (v := (.map (some mb25))) X X<|Y<|zo<|W.label<|E<|zo<|zd<|U X zbb X zbV X X<|M (j := 0) st24.sub (hc5.up (le12.t le16)) X X X zcp X<|have l27:=(le4.t le12).t le16;zaP (t_f0.up l27) X zaO X<|zh X X<|Y<|zK ?_;refine zaB ([2, 3, 6, 8] ++ zcb 19 44) (G := Nat × List (Int × Bool) × List (Nat × Obj) × Heap) (fun ⟨i, m, o_4, h28⟩ => [(3, .int .i64 0), (19, .int .i64 (i : Int))]) (fun ⟨i, m, o_4, h28⟩ w' => Le h15 h28 ∧ St h w h28 w' [o_4] ∧ (OM (fun n : Int => .int .i64 n) (fun b : Bool => .bool b) (m) o_4 (.map (some mb25))) ∧ (((m).map (·.1)).Nodup) ∧ (i ≤ t.chapters.length) ∧ ((t.chapters.take i).all zbB = true) ∧ (((t.chapters.take i).map (·.id)).Nodup) ∧ (∀ k, (zbH m k).getD false = decide (k ∈ (t.chapters.take i).map (·.id)))) (fun ⟨i, m, o_4, h28⟩ => t.chapters.length - i) ⟨0, [], o21, h15⟩ ⟨rfl, rfl, trivial⟩ ⟨Le.refl _, st24, (by have q := f23; exact q), (by have q := nd26; exact q), zba, zba, zba, (by intro k; simp [zbH])⟩ ?_;rintro ⟨i, m, o_4, h28⟩ _ w31 ⟨le29, st30, hM_4, hN_4, hi, hA, hN, hm⟩;refine zd<|zaZ X X X<|Y<|zo ?_;refine zG rfl (fun c32 => ?_) (fun c32 => ?_)
 ·refine zz<|E<|zo<|zK<|zd ?_;obtain ⟨c, hc⟩ : ∃ y_, (t.chapters)[i]? = some y_ := zbD zr;have l37 := l27.t le29;obtain ⟨b33, o34, _, he36, hc35, hr_c⟩ := Sl.elem (t_f0.up l37) hc;obtain ⟨v38, rfl, f39⟩ := hr_c;have f39_b := f39.le;refine zW he36 X X (hk := X) (hu := zaO) (hz := zbC) X<|zt st30.sub hc35 X Tryz.isAgg107 zbC X X<|zT st30 Tryz.zeroValue107 X X<|fun b40 w41 st42=>zJ st42 (k := 1) X X X (za X (za f39.one zao)) zbC X X X<|fun w43 st44=> ?_;obtain ⟨h45, le46, hb47, st49⟩ := st44.freeze (k := 1) rfl;have hc48 := Cells.of hb47;refine Y<|zo<|zd<|U X zaM X zm X X<|M (j := 0) st49.sub hc48 X X X zB X<|zam (L := LInt) (xs := [(c.id)]) (cs := [.int .i64 (c.id)]) st49 (Enc.cons (L := LInt) (vs := [.int .i64 (c.id)]) (x := (c.id)) (h := h45) (X) Enc.nil) X X X zj Tryz.info3 X X X O<|fun v50 w51 h54 le55 f52 st53=>zg st53 X X X zfN X (zfH st53.sub _ _ f52)<|fun r56 w57 h58 le59 st60 q61=> ?_;subst q61;refine zbu X X<|zX X X ?_;refine zaA (d := 28) rfl (fun g62 => ?_) (fun g62 => ?_)
  ·refine zM 4 X<|zP (v := (.bool _)) X X X<|zX X X<|zM 6 X<|zP (v := (.bool _)) X X X<|Y ?_;refine zai rfl (fun c63 => ?_) (fun c63 => ?_)
   ·refine zd<|zw X X<|Y<|zx<|zc<|zD<|zc<|zc<|zD<|zc<|zeD<|zb zeP ?_;refine ⟨h58, _, rfl, st60.done, ?_⟩;refine zaf ?_;have q0 : zbB c = false := by
     have q := g62;simp at q;simp [zbB, q]
    have q := zcI (p := zbB) hc q0;simp [zbc, q]
   cases c63
  refine Z X X X<|zY (v := (.map (some mb25))) X X<|Z X X X<|U X zaM X zm X X<|Z X X X<|M (j := 0) st60.sub (hc48.up (le55.t le59)) X X X zB X<|Z X X X<|zf X X (r_look (k := (c.id)) (zu := false) (zjy zbY) Tryz.underlying187 hM_4 (st60.ent (k := 0) X) zfJ X X X)<|zO (v := (.bool _)) X X X<|zX X X ?_;refine zaA (d := 34) rfl (fun g64 => ?_) (fun g64 => ?_)
  ·refine zM 6 X<|zP (v := (.bool _)) X X X<|Y ?_;refine zai rfl (fun c65 => ?_) (fun c65 => ?_)
   ·refine zd<|zw X X<|Y<|zx<|zc<|zD<|zc<|zc<|zD<|zc<|zeD<|zb zeP ?_;refine ⟨h58, _, rfl, st60.done, ?_⟩;refine zaf ?_;have q0 := g64;rw [hm] at q0;have q := ziS (f := (·.id)) hc (by simpa using q0);simp [zbc, q]
   cases c65
  refine Z X X X<|U X zaM X zce X X<|Z X X X<|M (j := 1) st60.sub (hc48.up (le55.t le59)) X X X zcB X<|Z X X X<|zaP (f39.up ((le46.t le55).t le59)) X zaQ X<|Z X X X<|zam (L := LInt) (xs := [(c.lines.length : Int)]) (cs := [.int .i64 (c.lines.length : Int)]) st60 (Enc.cons (L := LInt) (vs := [.int .i64 (c.lines.length : Int)]) (x := (c.lines.length : Int)) (h := h58) (X) Enc.nil) X X X zj Tryz.info3 X X X O<|fun v66 w67 h70 le71 f68 st69=>Z X X X<|zg st69 X X X zfN X (zfH st69.sub _ _ f68)<|fun r72 w73 h74 le75 st76 q77=> ?_;subst q77;refine Z X X X<|zbu X X<|zO (v := (.bool _)) X X X<|Y ?_;refine zai rfl (fun c78 => ?_) (fun c78 => ?_)
  ·refine zd<|zw X X<|Y<|zx<|zc<|zD<|zc<|zc<|zD<|zc<|zeD<|zb zeP ?_;refine ⟨h74, _, rfl, st76.done, ?_⟩;refine zaf ?_;have q0 : zbB c = false := by
    have q := c78;simp at q;simp [zbB, q]
   have q := zcI (p := zbB) hc q0;simp [zbc, q]
  refine zz<|E<|zd<|zY (v := (.map (some mb25))) X X<|U X zaM X zm X X<|have l79:=((le55.t le59).t le71).t le75;M (j := 0) st76.sub (hc48.up l79) X X X zB X<|zeC (i := 0) st76 hM_4 X hN_4 (zjy zbY) Tryz.underlying187 X (k := (c.id)) X (u := true) X<|fun o80 w81 _ e82 f83 nd84 st85=> ?_;subst e82;refine Y<|zd<|U X zaM X zce X X<|M (j := 1) st85.sub (hc48.up l79) X X X zcB X<|have l86:=(((le46.t le55).t le59).t le71).t le75;zaP (f39.up l86) X zaQ X<|zh X X<|Y<|zK ?_;refine zaB ([3, 8] ++ zcb 48 14) (G := Nat × List (Nat × Obj) × Heap) (fun ⟨k2, o_4, h87⟩ => [(3, .int .i64 0), (48, .int .i64 (k2 : Int))]) (fun ⟨k2, o_4, h87⟩ w' => Le h74 h87 ∧ St h w h87 w' [o_4, []] ∧ (OM (fun n : Int => .int .i64 n) (fun b : Bool => .bool b) (zgJ m c.id true) o_4 (.map (some mb25))) ∧ (((zgJ m c.id true).map (·.1)).Nodup) ∧ (k2 ≤ c.lines.length) ∧ ((c.lines.take k2).all zgs = true)) (fun ⟨k2, o_4, h87⟩ => c.lines.length - k2) ⟨0, o80, h74⟩ ⟨rfl, rfl, trivial⟩ ⟨Le.refl _, st85, (by have q := f83; exact q), (by have q := nd84; exact q), zba, zba⟩ ?_;rintro ⟨k2, o_4, h87⟩ _ w90 ⟨le88, st89, hM_4, hN_4, hk2, hl⟩;refine zd<|zaZ X X X<|Y<|zo ?_;refine zG rfl (fun c91 => ?_) (fun c91 => ?_)
  ·refine zz<|E<|zo<|zK<|zd ?_;obtain ⟨ln, hln⟩ : ∃ y_, (c.lines)[k2]? = some y_ := zbD zr;obtain ⟨b92, o93, _, he95, hc94, hr_ln⟩ := Sl.elem (f39.up (l86.t le88)) hln;obtain ⟨v96, rfl, f97⟩ := hr_ln;have f97_b := f97.le;refine zW he95 X X (hk := X) (hu := zaQ) (hz := zdT) X<|M (j := 0) st89.sub hc94 X X X zej X<|zag (v := v96) X X<|Y<|zd<|zY (v := v96) X X<|zaP f97 X zV X<|zam (L := LInt) (xs := [(ln.length : Int)]) (cs := [.int .i64 (ln.length : Int)]) st89 (Enc.cons (L := LInt) (vs := [.int .i64 (ln.length : Int)]) (x := (ln.length : Int)) (h := h87) (X) Enc.nil) X X X zj Tryz.info3 X X X O<|fun v98 w99 h102 le103 f100 st101=>zg st101 X X X zfN X (zfH st101.sub _ _ f100)<|fun r104 w105 h106 le107 st108 q109=> ?_;subst q109;refine zbu X X<|zX X X ?_;refine zaA (d := 57) rfl (fun g110 => ?_) (fun g110 => ?_)
   ·refine zM 2 X<|zP (v := (.bool _)) X X X<|Y ?_;refine zai rfl (fun c111 => ?_) (fun c111 => ?_)
    ·refine zd<|zw X X<|Y<|zaL<|zhH X<|zq<|zq<|zhH X<|zhH X<|zq<|zq<|zap<|E<|zd<|zh X X<|zw X X<|Y<|zx<|zeD<|zb zeP ?_;refine ⟨h106, _, rfl, st108.done, ?_⟩;refine zaf ?_;have q1 : zgs ln = false := by
      have q := g110;simp at q;simp [zgs, q]
     have q2 := zcI (p := zgs) hln q1;have q0 : zbB c = false := by simp [zbB, q2]
     have q := zcI (p := zbB) hc q0;simp [zbc, q]
    cases c111
   refine Z X X X<|zY (v := v96) X X<|Z X X X ?_;refine zg st108 rfl rfl rfl Tryz.call150 rfl (zfT st108.sub (f97.up (le103.t le107)) (fun x_ => (!zdK (x_))) Tryz.call151 (fun x_ h_ w_ vs_ le_ hs_ hx_ hr_ u_ hu_ => by cases hu_; obtain ⟨hr1_, hr2_⟩ := hr_; cases hr1_; simp only [big] at hr2_; exact c_leaf_Check_1 hs_ _ hr2_)) ?_;intro r112 w113 h114 le115 st116 q117;subst q117;refine zO (v := (.bool _)) X X X<|Y ?_;refine zai rfl (fun c118 => ?_) (fun c118 => ?_)
   ·refine zd<|zw X X<|Y<|zaL<|zhH X<|zq<|zq<|zhH X<|zhH X<|zq<|zq<|zap<|E<|zd<|zh X X<|zw X X<|Y<|zx<|zeD<|zb zeP ?_;refine ⟨h114, _, rfl, st116.done, ?_⟩;refine zaf ?_;have q1 : zgs ln = false := by
     have q := c118;rw [any_not] at q;simp only [zgs, Bool.and_eq_false_iff];right; simpa using q
    have q2 := zcI (p := zgs) hln q1;have q0 : zbB c = false := by simp [zbB, q2]
    have q := zcI (p := zbB) hc q0;simp [zbc, q]
   refine zz<|zQ<|E<|zn<|zaJ X X zaR X<|zh X X<|Y ?_;have l119 := ((le88.t le103).t le107).t le115;refine ⟨⟨k2 + 1, o_4, h114⟩, ⟨rfl, rfl, trivial⟩, ?_, ⟨l119, st116, ?_, ?_, ?_, ?_⟩, ?_⟩
   ·exact zas
   ·have q := hM_4;exact q
   ·have q := hN_4;exact q
   ·first | omega | (simp; omega)
   ·exact zcr hl hln (by simp_all [zgs])
   show c.lines.length - ((k2 + 1)) < c.lines.length - k2;omega
  refine zaL<|zq<|zq<|zap<|zQ<|E<|zn<|zaJ X X zaR X<|zh X X<|Y ?_;have HCH : zbB c = true := by
   have q := zdd hl zr;simp_all [zbB]
  have HD : (zbH m c.id).getD false = false := by simp_all
  have l120 := (((((le29.t le46).t le55).t le59).t le71).t le75).t le88;refine ⟨⟨i + 1, zgJ m c.id true, o_4, h87⟩, ⟨rfl, rfl, trivial⟩, ?_, ⟨l120, st89.take 1, ?_, ?_, ?_, ?_, ?_, ?_⟩, ?_⟩
  ·exact zas
  ·have q := hM_4;exact q
  ·have q := hN_4;exact q
  ·first | omega | (simp; omega)
  ·exact zcr hA hc HCH
  ·rw [zbh hc, List.map_append, List.nodup_append];refine ⟨hN, by simp, ?_⟩;intro a ha b hb e;simp only [List.map_cons, List.map_nil, List.mem_singleton] at hb;subst hb;subst e;rw [hm] at HD;exact absurd ha (by simpa using HD)
  ·intro k;rw [zje, zbh hc, List.map_append]
   by_cases e : k = c.id
   ·simp [e]
   ·simp only [if_neg e, hm];simp [e]
  show t.chapters.length - ((i + 1)) < t.chapters.length - i;omega
 refine zaL<|zq<|zq<|zap<|E<|zd<|zh X X<|zw X X<|Y<|zx<|zeD<|zb zeP ?_;refine ⟨h28, _, rfl, st30.done, ?_⟩;refine zaf ?_;have q := zdd hA zr;have q2 : t.chapters.take i = t.chapters := List.take_of_length_le zr;rw [q2] at hN;simp_all [zbc]
end Go.Pk

namespace Go.Pk
open Go Go.RowKit Go.Proofs
theorem zjk {h : Heap} {w : World} (hs : Sub h w) {a_v : Value} {a : (List Str)} (a_f : Sl LStr h a_v a) {b_v : Value} {b : (List Str)} (b_f : Sl LStr h b_v b) : Calls Tryz.prog 46 #[a_v, b_v] w (Rets h w (fun _ _ res_ => res_ = .bool (decide (a = b)))) := by
 refine zR (n := 26) Tryz.func46 X X X<|have st0:=zbg hs;have a_f_b:=a_f.le;have b_f_b:=b_f.le;zd<|zF X X<|Y<|zo<|zd<|zY (v := a_v) X X<|zaP a_f X zV X<|zY (v := b_v) X X<|zaP b_f X zV X<|zcs X X X<|Y ?_;refine zG rfl (fun c1 => ?_) (fun c1 => ?_)
 ·refine zd<|zF X X<|Y<|zx<|zc<|zb Tryz.results46 ?_;refine ⟨h, _, rfl, st0.done, ?_⟩;refine zy ?_;have q : a ≠ b := by
   rintro rfl;simp_all
  simp [q]
 refine zz<|E<|zo<|zd<|zw X X<|Y<|zK ?_;refine zaB ([4, 5] ++ zcb 11 15) (G := Nat × Heap) (fun ⟨k, h2⟩ => [(5, .int .i64 (k : Int))]) (fun ⟨k, h2⟩ w' => Le h h2 ∧ St h w h2 w' [] ∧ (k ≤ a.length) ∧ (a.take k = b.take k)) (fun ⟨k, h2⟩ => a.length - k) ⟨0, h⟩ ⟨rfl, trivial⟩ ⟨Le.refl _, st0, zba, zba⟩ ?_;rintro ⟨k, h2⟩ _ w5 ⟨le3, st4, hk, he⟩;refine zo<|zd<|zh X X<|zY (v := a_v) X X<|zaP (a_f.up le3) X zV X<|zaZ X X X<|Y ?_;refine zG rfl (fun c6 => ?_) (fun c6 => ?_)
 ·refine zz<|E<|zo<|zK<|zo<|zcd Tryz.mixed O (Cls h2 _) (Cls.drew st4)<|zfc (v := a_v) X X<|zdr X X ?_;obtain ⟨x, hx⟩ : ∃ y_, (a)[k]? = some y_ := zbD zr;obtain ⟨b7, o8, _, he10, hc9, hr_x⟩ := Sl.elem (a_f.up le3) hx;obtain ⟨rfl, ls11⟩ := hr_x;simp only [big] at ls11;refine zca he10 X X (hk := X) (hu := zV) (hz := zal) X<|zC X X (fun _ hC => (zi (j := 0) hC.sub hc9 X X X zav))<|zfc (v := b_v) X X<|zdr X X ?_;obtain ⟨y, hy⟩ : ∃ y_, (b)[k]? = some y_ := zbD zr;obtain ⟨b12, o13, _, he15, hc14, hr_y⟩ := Sl.elem (b_f.up le3) hy;obtain ⟨rfl, ls16⟩ := hr_y;simp only [big] at ls16;refine zca he15 X X (hk := X) (hu := zV) (hz := zal) X<|zC X X (fun _ hC => (zi (j := 0) hC.sub hc14 X X X zav))<|zC X X (fun _ _ => (r_sneq X X))<|zbv ?_;rintro w17 ⟨h18, s19⟩;have st20 := st4.call0 s19;refine E ?_;refine zG rfl (fun c21 => ?_) (fun c21 => ?_)
  ·refine zd<|zF X X<|Y<|zx<|zD<|zc<|zc<|zD<|zc<|zb Tryz.results46 ?_;refine ⟨h18, _, rfl, st20.done, ?_⟩;refine zy ?_;have q := ne_of_get hx hy (by simpa using c21);simp [q]
  refine zz<|zQ<|E<|zn<|zh X X<|zaJ X X zaR X<|zw X X<|Y ?_;have l22 := le3.trans s19.le;refine ⟨⟨k + 1, h18⟩, ⟨rfl, trivial⟩, ?_, ⟨l22, st20, ?_, ?_⟩, ?_⟩
  ·exact zas
  ·first | omega | (simp; omega)
  ·exact eq_take_succ he hx hy (by simpa using c21)
  show a.length - ((k + 1)) < a.length - k;omega
 refine zaL<|zq<|zq<|zap<|E<|zd<|zF X X<|Y<|zx<|zb Tryz.results46 ?_;refine ⟨h2, _, rfl, st4.done, ?_⟩;refine zy ?_;have q := eq_of_take he zr zr;simp [q]
theorem zdt {h : Heap} {w : World} (hs : Sub h w) {a_v : Value} {a : (List Int)} (a_f : Sl LInt h a_v a) {b_v : Value} {b : (List Int)} (b_f : Sl LInt h b_v b) : Calls Tryz.prog 20 #[a_v, b_v] w (Rets h w (fun _ _ res_ => res_ = .bool (decide (a = b)))) := by
 refine zR (n := 26) Tryz.func20 X X X<|have st0:=zbg hs;have a_f_b:=a_f.le;have b_f_b:=b_f.le;zd<|zF X X<|Y<|zo<|zd<|zY (v := a_v) X X<|zaP a_f X zj X<|zY (v := b_v) X X<|zaP b_f X zj X<|zcs X X X<|Y ?_;refine zG rfl (fun c1 => ?_) (fun c1 => ?_)
 ·refine zd<|zF X X<|Y<|zx<|zc<|zb Tryz.results20 ?_;refine ⟨h, _, rfl, st0.done, ?_⟩;refine zy ?_;have q : a ≠ b := by
   rintro rfl;simp_all
  simp [q]
 refine zz<|E<|zo<|zd<|zw X X<|Y<|zK ?_;refine zaB ([4, 5] ++ zcb 11 15) (G := Nat × Heap) (fun ⟨k, h2⟩ => [(5, .int .i64 (k : Int))]) (fun ⟨k, h2⟩ w' => Le h h2 ∧ St h w h2 w' [] ∧ (k ≤ a.length) ∧ (a.take k = b.take k)) (fun ⟨k, h2⟩ => a.length - k) ⟨0, h⟩ ⟨rfl, trivial⟩ ⟨Le.refl _, st0, zba, zba⟩ ?_;rintro ⟨k, h2⟩ _ w5 ⟨le3, st4, hk, he⟩;refine zo<|zd<|zh X X<|zY (v := a_v) X X<|zaP (a_f.up le3) X zj X<|zaZ X X X<|Y ?_;refine zG rfl (fun c6 => ?_) (fun c6 => ?_)
 ·refine zz<|E<|zo<|zK<|zo<|zcd Tryz.mixed O (Cls h2 _) (Cls.drew st4)<|zfc (v := a_v) X X<|zdr X X ?_;obtain ⟨x, hx⟩ : ∃ y_, (a)[k]? = some y_ := zbD zr;obtain ⟨b7, o8, _, he10, hc9, hr_x⟩ := Sl.elem (a_f.up le3) hx;subst hr_x;refine zca he10 X X (hk := X) (hu := zj) (hz := zm) X<|zC X X (fun _ hC => (zi (j := 0) hC.sub hc9 X X X zB))<|zfc (v := b_v) X X<|zdr X X ?_;obtain ⟨y, hy⟩ : ∃ y_, (b)[k]? = some y_ := zbD zr;obtain ⟨b11, o12, _, he14, hc13, hr_y⟩ := Sl.elem (b_f.up le3) hy;subst hr_y;refine zca he14 X X (hk := X) (hu := zj) (hz := zm) X<|zC X X (fun _ hC => (zi (j := 0) hC.sub hc13 X X X zB))<|u_neq X X X<|zbv ?_;rintro w15 ⟨h16, s17⟩;have st18 := st4.call0 s17;refine E ?_;refine zG rfl (fun c19 => ?_) (fun c19 => ?_)
  ·refine zd<|zF X X<|Y<|zx<|zD<|zc<|zc<|zD<|zc<|zb Tryz.results20 ?_;refine ⟨h16, _, rfl, st18.done, ?_⟩;refine zy ?_;have q := ne_of_get hx hy (by simpa using c19);simp [q]
  refine zz<|zQ<|E<|zn<|zh X X<|zaJ X X zaR X<|zw X X<|Y ?_;have l20 := le3.trans s17.le;refine ⟨⟨k + 1, h16⟩, ⟨rfl, trivial⟩, ?_, ⟨l20, st18, ?_, ?_⟩, ?_⟩
  ·exact zas
  ·first | omega | (simp; omega)
  ·exact eq_take_succ he hx hy (by simpa using c19)
  show a.length - ((k + 1)) < a.length - k;omega
 refine zaL<|zq<|zq<|zap<|E<|zd<|zF X X<|Y<|zx<|zb Tryz.results20 ?_;refine ⟨h2, _, rfl, st4.done, ?_⟩;refine zy ?_;have q := eq_of_take he zr zr;simp [q]
end Go.Pk

namespace Go.Pk
open Go Go.RowKit Go.Proofs
theorem c_leaf_open {h : Heap} {w : World} (hs : Sub h w) {t : Text} {t_v0 : Value} (t_f0 : Sl LChapter h t_v0 t.chapters) : Calls Tryz.prog 91 #[.agg #[t_v0]] w (Rets h w (fun h' _ res_ => ∃ u0, res_ = .tuple #[u0, .int .i64 ((if zbc t then 0 else 10))] ∧ Box LText h' (zbc t) t u0)) := by
 refine zR (n := 13) Tryz.func91 X X X<|have st0:=zbg hs;have t_f0_b:=t_f0.le;zd<|zH st0 (cs := [t_v0]) X X X<|fun b1 w2 h3 le4 hc5 st6=>zag X X<|zw X X<|Y<|zo<|zd<|zt st6.sub hc5 X zaY zah X X<|zg st6 X X X Tryz.call106 X (c_leaf_Check st6.sub (t := t) (t_f0.up le4))<|fun r7 w8 h9 le10 st11 q12=> ?_;subst q12;refine zw X X<|Y<|zd<|zh X X<|zcs X X X<|Y ?_;refine zG rfl (fun c13 => ?_) (fun c13 => ?_)
 ·refine zd<|zh X X<|zag X X<|zw X X<|Y<|zx<|zc<|zaU Tryz.results91 ?_;refine ⟨h9, _, rfl, st11.done, ?_⟩;refine ⟨_, zdl rfl (zaf ?_), Box.nil ?_⟩
  ·simp_all
  simp_all
 refine zz<|E<|zd<|zt st11.sub (hc5.up le10) X zaY zah X X ?_;refine zf rfl rfl (zbo (cs := [t_v0]) (by obtain ⟨_, _, rfl⟩ := Sl.form t_f0; kernel_rfl)) ?_;refine zH st11 (cs := [t_v0]) X X X<|fun b14 w15 h16 le17 hc18 st19=>v_asP X X<|zw X X<|Y<|zx<|zaU Tryz.results91 ?_;refine ⟨h16, _, rfl, st19.done, ?_⟩;refine ⟨_, zdl rfl (zaf ?_), Box.some ?_ hc18 ⟨_, rfl, (t_f0.up ((le4.t le10).t le17))⟩⟩
 ·simp_all
 simp_all
theorem zjl {h : Heap} {w : World} (hs : Sub h w) {t_b : Nat} {t : Text} {t_v0 : Value} (t_f0 : Sl LChapter h t_v0 t.chapters) (t_c : Cells h t_b 0 [t_v0]) {p : Place} : Calls Tryz.prog 86 #[.pointer (some ⟨t_b, 0, none⟩), .agg #[.int .i64 p.chapter, .int .i64 p.line, .int .i64 p.word]] w (Rets h w (fun h' _ res_ => ∃ u0, res_ = u0 ∧ Sl LStr h' u0 ((zcV t p).getD []))) := by
 refine zR (n := 50) Tryz.func86 X X X<|have st0:=zbg hs;have t_f0_b:=t_f0.le;zd<|zH st0 (cs := [.int .i64 (p.chapter), .int .i64 (p.line), .int .i64 (p.word)]) X X X<|fun b1 w2 h3 le4 hc5 st6=>zcO X X<|Y<|zo<|zo ?_
 rcases Bool.eq_false_or_eq_true ((!(zcK (([(p.chapter)])) (0) (((t.chapters.length : Int) - 1))))) with g7 | g7
 ·have g7_r := g7;refine zbr (er := ([], [], [], [], 0)) (dsts := [5, 6, 7, 8, 9, 10, 11, 12, 13, 14, 15, 16, 17, 18, 19, 20, 21, 22, 23, 24, 25, 26, 27, 28, 29, 30, 31, 32, 33, 34, 35]) st6 Tryz.mixed<|ze 0 [] X O O X X (fun hD wD τD hL hS hO  => (r_mvP X))<|ze 1 [0] X O O X X (fun hD wD τD hL hS hO _ _ => (zdv X))<|ze 2 [0] X O O X X (fun hD wD τD hL hS hO _ _ => (zS X zeU X zah X))<|ze 3 [0] X O O X X (fun hD wD τD hL hS hO _ _ => (zS X zbb X zbV X))<|ze 4 [0] X O O X X (fun hD wD τD hL hS hO _ _ => (zi (j := 0) (hL.sub hS) (t_c.up le4) X X X zcp))<|ze 5 [0] X O O X X (fun hD wD τD hL hS hO _ _ => (r_len (t_f0.up le4) X zaO))<|ze 6 [0] X O O X X (fun hD wD τD hL hS hO _ _ => (r_sub X X zaR))<|ze 7 [] X O O X X (fun hD wD τD hL hS hO  => (zS X zan X zm X))<|ze 8 [0] X O O X X (fun hD wD τD hL hS hO _ _ => (zi (j := 0) (hL.sub hS) hc5 X X X zB)) ?_;refine zaG 9 (.res (fun h' res_ => Sl LInt h' res_ ([(p.chapter)])) (fun _ _ _ hl f => f.up hl)) [0] rfl O O ?_ ?_
  ·intro hD wD τD hL hS hO _ _;have st8 := St.start hS;refine zam (L := LInt) (xs := [(p.chapter)]) (cs := [.int .i64 (p.chapter)]) st8 (Enc.cons (L := LInt) (vs := [.int .i64 (p.chapter)]) (x := (p.chapter)) (h := hD) (X) Enc.nil) X X X zj Tryz.info3 X X X O<|fun v9 w10 h13 le14 f11 st12=> ?_;exact zp ⟨_, _, rfl, st12, _, rfl, f11⟩
  refine zaG 10 (.det (.bool (zcK (([(p.chapter)])) (0) (((t.chapters.length : Int) - 1))))) [3, 0] rfl O O ?_ ?_
  ·intro hD wD τD hL hS hO _ _ gv9_0 gf9_0;have st15 := St.start hS;refine zg st15 X X X zfN X (zfH st15.sub _ _ gf9_0)<|fun r16 w17 h18 le19 st20 q21=> ?_;subst q21;exact zp ⟨_, _, rfl, st20, (), rfl, trivial⟩
  refine ze 11 [0] X O O X X (fun hD wD τD hL hS hO _ _ => (Run.lit (r_not X) g7_r))<|ze 12 [0, 1] X O O X X (fun hD wD τD hL hS hO _ _ _ _ => (zfh X))<|zaI 13 [0] X O O X X X X (fun hD wD τD hL hS hO _ _ => X)<|zaI 14 [0, 1] X O O X X X X (fun hD wD τD hL hS hO _ _ _ _ => X)<|zaI 15 [0, 2] X O O X X X X (fun hD wD τD hL hS hO _ _ _ _ => X)<|zaI 16 [0, 3] X O O X X X X (fun hD wD τD hL hS hO _ _ _ _ => X)<|zaI 17 [0, 4] X O O X X X X (fun hD wD τD hL hS hO _ _ _ _ => X)<|zaI 18 [5] X O O X X X X (fun hD wD τD hL hS hO _ _ => X)<|zaI 19 [0, 6] X O O X X X X (fun hD wD τD hL hS hO _ _ _ _ => X)<|zaI 20 [2, 0, 7] X O O X X X X (fun hD wD τD hL hS hO _ _ _ _ _ _ => X)<|zaI 21 [0, 8] X O O X X X X (fun hD wD τD hL hS hO _ _ _ _ => X)<|zaI 22 [0, 9] X O O X X X X (fun hD wD τD hL hS hO _ _ _ _ => X)<|zaI 23 [0, 10] X O O X X X X (fun hD wD τD hL hS hO _ _ _ _ => X)<|zaI 24 [0, 11] X O O X X X X (fun hD wD τD hL hS hO _ _ _ _ => X)<|zaI 25 [12] X O O X X X X (fun hD wD τD hL hS hO _ _ => X)<|zaI 26 [0, 13] X O O X X X X (fun hD wD τD hL hS hO _ _ _ _ => X)<|zaI 27 [0, 14] X O O X X X X (fun hD wD τD hL hS hO _ _ _ _ => X)<|zaI 28 [3, 0, 15] X O O X X X X (fun hD wD τD hL hS hO _ _ _ _ _ _ => X)<|zaI 29 [0, 16] X O O X X X X (fun hD wD τD hL hS hO _ _ _ _ => X)<|ze 30 [17, 0] X O O X X (fun hD wD τD hL hS hO _ _ _ _ => (zhQ (v := (.bool _)) X X))<|zcj X X X X X X ⟨O, X, O, X, O, X, X, O, zda⟩<|fun hE22 w23 _ le24 st25 _ _ _ _ _ _ _ _ _ _ _ _ _ _ _ _ _ _ gv9_0x26 gf9_0x26 _ _ _ _ _ _ _ _ _ _ _ _ _ _ _ _ _ _ _ _ _ _ _ _ _ _ _ _ _ _ _ _ _ _ _ _ _ _ _ _ _ _=>AllDeps.fin X<|E ?_;refine zai rfl (fun c27 => ?_) (fun c27 => ?_)
  ·refine zd<|zcO X X<|Y<|zx<|zc<|zb Tryz.results86 ?_;refine ⟨hE22, _, rfl, st25.done, ?_⟩;refine ⟨_, rfl, Sl.to (Sl.nil _ _) ?_⟩;have q : zcV t p = none := line_none1 (by
    have q := g7;simp [zcK, inB] at q;omega)
   simp [q]
  cases c27
 have g7_r := g7;have q1 : 0 ≤ p.chapter ∧ p.chapter < t.chapters.length := by
  have q := g7;simp [zcK, inB] at q;omega
 obtain ⟨c, hc⟩ : ∃ y_, (t.chapters)[p.chapter.toNat]? = some y_ := zbD zr;obtain ⟨b28, o29, _, he31, hc30, hr_c⟩ := Sl.elem (t_f0.up le4) hc;obtain ⟨v32, rfl, f33⟩ := hr_c;have f33_b := f33.le;refine zbr (er := ([], [], [], [], 0)) (dsts := [5, 6, 7, 8, 9, 10, 11, 12, 13, 14, 15, 16, 17, 18, 19, 20, 21, 22, 23, 24, 25, 26, 27, 28, 29, 30, 31, 32, 33, 34, 35]) st6 Tryz.mixed<|ze 0 [] X O O X X (fun hD wD τD hL hS hO  => (r_mvP X))<|ze 1 [0] X O O X X (fun hD wD τD hL hS hO _ _ => (zdv X))<|ze 2 [0] X O O X X (fun hD wD τD hL hS hO _ _ => (zS X zeU X zah X))<|ze 3 [0] X O O X X (fun hD wD τD hL hS hO _ _ => (zS X zbb X zbV X))<|ze 4 [0] X O O X X (fun hD wD τD hL hS hO _ _ => (zi (j := 0) (hL.sub hS) (t_c.up le4) X X X zcp))<|ze 5 [0] X O O X X (fun hD wD τD hL hS hO _ _ => (r_len (t_f0.up le4) X zaO))<|ze 6 [0] X O O X X (fun hD wD τD hL hS hO _ _ => (r_sub X X zaR))<|ze 7 [] X O O X X (fun hD wD τD hL hS hO  => (zS X zan X zm X))<|ze 8 [0] X O O X X (fun hD wD τD hL hS hO _ _ => (zi (j := 0) (hL.sub hS) hc5 X X X zB)) ?_;refine zaG 9 (.res (fun h' res_ => Sl LInt h' res_ ([(p.chapter)])) (fun _ _ _ hl f => f.up hl)) [0] rfl O O ?_ ?_
 ·intro hD wD τD hL hS hO _ _;have st34 := St.start hS;refine zam (L := LInt) (xs := [(p.chapter)]) (cs := [.int .i64 (p.chapter)]) st34 (Enc.cons (L := LInt) (vs := [.int .i64 (p.chapter)]) (x := (p.chapter)) (h := hD) (X) Enc.nil) X X X zj Tryz.info3 X X X O<|fun v35 w36 h39 le40 f37 st38=> ?_;exact zp ⟨_, _, rfl, st38, _, rfl, f37⟩
 refine zaG 10 (.det (.bool (zcK (([(p.chapter)])) (0) (((t.chapters.length : Int) - 1))))) [3, 0] rfl O O ?_ ?_
 ·intro hD wD τD hL hS hO _ _ gv9_0 gf9_0;have st41 := St.start hS;refine zg st41 X X X zfN X (zfH st41.sub _ _ gf9_0)<|fun r42 w43 h44 le45 st46 q47=> ?_;subst q47;exact zp ⟨_, _, rfl, st46, (), rfl, trivial⟩
 refine ze 11 [0] X O O X X (fun hD wD τD hL hS hO _ _ => (Run.lit (r_not X) g7_r))<|ze 12 [0, 1] X O O X X (fun hD wD τD hL hS hO _ _ _ _ => (zfh X))<|zaW 13 [0] X O O X X X (fun hD wD τD hL hS hO _ _ => ⟨rfl, (r_mvP X)⟩)<|zaW 14 [0, 1] X O O X X X (fun hD wD τD hL hS hO _ _ _ _ => ⟨rfl, (zdv X)⟩)<|zaW 15 [0, 2] X O O X X X (fun hD wD τD hL hS hO _ _ _ _ => ⟨rfl, (zS X zeU X zah X)⟩)<|zaW 16 [0, 3] X O O X X X (fun hD wD τD hL hS hO _ _ _ _ => ⟨rfl, (zS X zbb X zbV X)⟩)<|zaW 17 [0, 4] X O O X X X (fun hD wD τD hL hS hO _ _ _ _ => ⟨rfl, (zi (j := 0) (hL.sub hS) (t_c.up le4) X X X zcp)⟩)<|zaW 18 [5] X O O X X X (fun hD wD τD hL hS hO _ _ => ⟨rfl, (zS X zan X zm X)⟩)<|zaW 19 [0, 6] X O O X X X (fun hD wD τD hL hS hO _ _ _ _ => ⟨rfl, (zi (j := 0) (hL.sub hS) hc5 X X X zB)⟩) ?_;refine zaW 20 [2, 0, 7] rfl O O rfl rfl rfl (fun hD wD τD hL hS hO _ _ _ _ _ _ => ⟨rfl, (zay he31 rfl rfl (hk := (show _ = ((p.chapter.toNat : Nat) : Int) by omega)) (hu := zaO) (hz := zbC))⟩) ?_;refine zaW 21 [0, 8] X O O X X X (fun hD wD τD hL hS hO _ _ _ _ => ⟨rfl, (zS X zaM X zce X)⟩)<|zaW 22 [0, 9] X O O X X X (fun hD wD τD hL hS hO _ _ _ _ => ⟨rfl, (zi (j := 1) (hL.sub hS) hc30 X X X zcB)⟩)<|zaW 23 [0, 10] X O O X X X (fun hD wD τD hL hS hO _ _ _ _ => ⟨rfl, (r_len f33 X zaQ)⟩)<|zaW 24 [0, 11] X O O X X X (fun hD wD τD hL hS hO _ _ _ _ => ⟨rfl, (r_sub X X zaR)⟩)<|zaW 25 [12] X O O X X X (fun hD wD τD hL hS hO _ _ => ⟨rfl, (zS X zan X zm X)⟩)<|zaW 26 [0, 13] X O O X X X (fun hD wD τD hL hS hO _ _ _ _ => ⟨rfl, (zi (j := 1) (hL.sub hS) hc5 X X X zB)⟩) ?_;refine zaG 27 (.res (fun h' res_ => Sl LInt h' res_ ([(p.line)])) (fun _ _ _ hl f => f.up hl)) [0, 14] rfl O O ?_ ?_
 ·intro hD wD τD hL hS hO _ _ _ _;have st48 := St.start hS;refine Z X X X<|zam (L := LInt) (xs := [(p.line)]) (cs := [.int .i64 (p.line)]) st48 (Enc.cons (L := LInt) (vs := [.int .i64 (p.line)]) (x := (p.line)) (h := hD) (X) Enc.nil) X X X zj Tryz.info3 X X X O<|fun v49 w50 h53 le54 f51 st52=> ?_;exact zp ⟨_, _, rfl, st52, _, rfl, f51⟩
 refine zaG 28 (.det (.bool (zcK (([(p.line)])) (0) (((c.lines.length : Int) - 1))))) [3, 0, 15] rfl O O ?_ ?_
 ·intro hD wD τD hL hS hO _ _ gv27_0 gf27_0 _ _;have st55 := St.start hS;refine Z X X X<|zg st55 X X X zfN X (zfH st55.sub _ _ gf27_0)<|fun r56 w57 h58 le59 st60 q61=> ?_;subst q61;exact zp ⟨_, _, rfl, st60, (), rfl, trivial⟩
 refine zaW 29 [0, 16] X O O X X X (fun hD wD τD hL hS hO _ _ _ _ => ⟨rfl, (r_not X)⟩)<|ze 30 [17, 0] X O O X X (fun hD wD τD hL hS hO _ _ _ _ => (zgg (v := (.bool _)) X X))<|zcj X X X X X X ⟨O, X, O, X, O, X, X, O, zda⟩<|fun hE62 w63 _ le64 st65 _ _ _ _ _ _ _ _ _ _ _ _ _ _ _ _ _ _ gv9_0x66 gf9_0x66 _ _ _ _ _ _ _ _ _ _ _ _ _ _ _ _ _ _ _ _ _ _ _ _ _ _ _ _ _ _ _ _ _ _ gv27_0x66 gf27_0x66 _ _ _ _ _ _=>AllDeps.fin X<|E ?_;refine zai rfl (fun c67 => ?_) (fun c67 => ?_)
 ·refine zd<|zcO X X<|Y<|zx<|zc<|zb Tryz.results86 ?_;refine ⟨hE62, _, rfl, st65.done, ?_⟩;refine ⟨_, rfl, Sl.to (Sl.nil _ _) ?_⟩;have q : zcV t p = none := line_none2 hc (by
   have q := c67;simp [zcK, inB] at q;omega)
  simp [q]
 refine zz<|E<|zo ?_;have q1 : 0 ≤ p.chapter ∧ p.chapter < t.chapters.length ∧ 0 ≤ p.line ∧ p.line < c.lines.length := by
  have q := g7;have q0 := c67;simp [zcK, inB] at q q0;omega
 refine zcd Tryz.mixed O (Cls hE62 _) (Cls.drew st65)<|u_mvP X X<|zC X X (fun _ _ => (zdv X))<|zac X zeU X zah X X<|zac X zbb X zbV X X<|have l68:=le4.t le64;zC X X (fun _ hC => (zi (j := 0) hC.sub (t_c.up l68) X X X zcp))<|zac X zan X zm X X<|zC X X (fun _ hC => (zi (j := 0) hC.sub (hc5.up le64) X X X zB)) ?_;refine zC rfl rfl (fun _ _ => (zay he31 rfl rfl (hk := (show _ = ((p.chapter.toNat : Nat) : Int) by omega)) (hu := zaO) (hz := zbC))) ?_;refine zac X zaM X zce X X<|zC X X (fun _ hC => (zi (j := 1) hC.sub (hc30.up le64) X X X zcB))<|zac X zan X zm X X<|zC X X (fun _ hC => (zi (j := 1) hC.sub (hc5.up le64) X X X zB)) ?_;obtain ⟨ln, hln⟩ : ∃ y_, (c.lines)[p.line.toNat]? = some y_ := zbD zr;obtain ⟨b69, o70, _, he72, hc71, hr_ln⟩ := Sl.elem (f33.up le64) hln;obtain ⟨v73, rfl, f74⟩ := hr_ln;have f74_b := f74.le;refine zC rfl rfl (fun _ _ => (zay he72 rfl rfl (hk := (show _ = ((p.line.toNat : Nat) : Int) by omega)) (hu := zaQ) (hz := zdT))) ?_;refine zC X X (fun _ hC => (zi (j := 0) hC.sub hc71 X X X zej))<|u_assign (v := v73) X X<|zbv ?_;rintro w75 ⟨h76, s77⟩;have st78 := st65.call0 s77;refine E<|zx<|zb Tryz.results86 ?_;refine ⟨h76, _, rfl, st78.done, ?_⟩;refine ⟨_, rfl, Sl.to (f74.up s77.le) ?_⟩;rw [line_some hc q1.1 hln q1.2.2.1]; rfl
theorem c_leaf_book_has {h : Heap} {w : World} (hs : Sub h w) {t_b : Nat} {t : Text} {t_v0 : Value} (t_f0 : Sl LChapter h t_v0 t.chapters) (t_c : Cells h t_b 0 [t_v0]) {p : Place} : Calls Tryz.prog 124 #[.pointer (some ⟨t_b, 0, none⟩), .agg #[.int .i64 p.chapter, .int .i64 p.line, .int .i64 p.word]] w (Rets h w (fun _ _ res_ => res_ = .bool (zbm t p))) := by
 refine zR (n := 14) Tryz.func124 X X X<|have st0:=zbg hs;have t_f0_b:=t_f0.le;zd<|zH st0 (cs := [.int .i64 (p.chapter), .int .i64 (p.line), .int .i64 (p.word)]) X X X<|fun b1 w2 h3 le4 hc5 st6=>zF X X<|Y<|zo<|have qb:=line_le t_f0 p;zbr (er := ([], [], [], [], 0)) (dsts := [5, 6, 7, 8, 9, 10, 11, 12, 13, 4]) st6 Tryz.mixed<|ze 0 [] X O O X X (fun hD wD τD hL hS hO  => (r_mvP X))<|ze 1 [] X O O X X (fun hD wD τD hL hS hO  => (zar (hL.sub hS) hc5 X zax zL X)) ?_;refine zaG 2 (.res (fun h' res_ => Sl LStr h' res_ ((zcV (t) (p)).getD [])) (fun _ _ _ hl f => f.up hl)) [1, 0] rfl O O ?_ ?_
 ·intro hD wD τD hL hS hO _ _ _ _;have st7 := St.start hS;refine zg st7 X X X Tryz.call86 X (zjl st7.sub (t := t) (t_f0.up (le4.trans hL)) (t_c.up (le4.trans hL)) (p := p))<|fun r8 w9 h10 le11 st12 q13=> ?_;obtain ⟨v14, e16, f15⟩ := q13;rw [← e16] at f15;have f15_b := f15.le;exact zp ⟨_, _, rfl, st12, _, rfl, f15⟩
 refine zaG 3 (.det (.int .i64 (((zcV (t) (p)).getD []).length : Int))) [0] rfl O O ?_ ?_
 ·intro hD wD τD hL hS hO gv2_0 gf2_0;have st17 := St.start hS;refine zaP gf2_0 X zV X ?_;exact zp ⟨_, _, rfl, st17, (), rfl, trivial⟩
 refine ze 4 [0] X O O X X (fun hD wD τD hL hS hO _ _ => (r_sub X X zaR))<|ze 5 [] X O O X X (fun hD wD τD hL hS hO  => (zS X zan X zm X))<|ze 6 [0] X O O X X (fun hD wD τD hL hS hO _ _ => (zi (j := 2) (hL.sub hS) hc5 X X X zB)) ?_;refine zaG 7 (.res (fun h' res_ => Sl LInt h' res_ ([(p.word)])) (fun _ _ _ hl f => f.up hl)) [0] rfl O O ?_ ?_
 ·intro hD wD τD hL hS hO _ _;have st18 := St.start hS;refine zam (L := LInt) (xs := [(p.word)]) (cs := [.int .i64 (p.word)]) st18 (Enc.cons (L := LInt) (vs := [.int .i64 (p.word)]) (x := (p.word)) (h := hD) (X) Enc.nil) X X X zj Tryz.info3 X X X O<|fun v19 w20 h23 le24 f21 st22=> ?_;exact zp ⟨_, _, rfl, st22, _, rfl, f21⟩
 refine zaG 8 (.det (.bool (zcK (([(p.word)])) (0) (((((zcV (t) (p)).getD []).length : Int) - 1))))) [3, 0, 5] rfl O O ?_ ?_
 ·intro hD wD τD hL hS hO _ _ gv7_0 gf7_0 gv2_0 gf2_0;have st25 := St.start hS;refine zg st25 X X X zfN X (zfH st25.sub _ _ gf7_0)<|fun r26 w27 h28 le29 st30 q31=> ?_;subst q31;exact zp ⟨_, _, rfl, st30, (), rfl, trivial⟩
 refine ze 9 [8, 7, 6, 5, 4, 3, 2, 1, 0] X O O X X (fun hD wD τD hL hS hO _ _ _ _ gv2_0 gf2_0 _ _ _ _ _ _ _ _ gv7_0 gf7_0 _ _ => (r_asB X))<|zcj X X X X X X ⟨O, X, O, X, O, X, X, O, zda⟩<|fun hE32 w33 _ le34 st35 _ _ _ _ gv2_0x36 gf2_0x36 _ _ _ _ _ _ _ _ gv7_0x36 gf7_0x36 _ _ _ _=>AllDeps.fin X<|E<|zx<|zb Tryz.results124 ?_;refine ⟨hE32, _, rfl, st35.done, ?_⟩;refine zy ?_;rw [place_eq];cases hq : zcV t p with
 | none => simp [zcK, inB]; omega
 | some l => simp [zcK]
theorem c_leaf_placed {h : Heap} {w : World} (hs : Sub h w) {t : Text} {t_v0 : Value} (t_f0 : Sl LChapter h t_v0 t.chapters) {p : Place} : Calls Tryz.prog 85 #[.agg #[t_v0], .agg #[.int .i64 p.chapter, .int .i64 p.line, .int .i64 p.word]] w (Rets h w (fun h' _ res_ => ∃ u0, res_ = .tuple #[u0, .int .i64 ((if zbc t && zbm t p then 0 else if zbc t then 12 else 10))] ∧ Box LText h' (zbc t && zbm t p) t u0)) := by
 refine zR (n := 21) Tryz.func85 X X X<|have st0:=zbg hs;have t_f0_b:=t_f0.le;zd<|zH st0 (cs := [t_v0]) X X X<|fun b1 w2 h3 le4 hc5 st6=>zH st6 (cs := [.int .i64 (p.chapter), .int .i64 (p.line), .int .i64 (p.word)]) X X X<|fun b7 w8 h9 le10 hc11 st12=>zag X X<|zw X X<|Y<|zd<|zt st12.sub (hc5.up le10) X zaY zah X X<|have l13:=le4.t le10;zg st12 X X X Tryz.call91 X (c_leaf_open st12.sub (t := t) (t_f0.up l13))<|fun r14 w15 h16 le17 st18 q19=> ?_
 rcases Bool.eq_false_or_eq_true (zbc (t)) with hb20 | hb20
 ·simp only [hb20, if_true, if_false, Bool.false_eq_true, reduceIte] at q19;obtain ⟨v21, rfl, f22⟩ := q19;obtain ⟨b23, vs24, rfl, hc25, hr26⟩ := f22;obtain ⟨v27, rfl, f28⟩ := hr26;have f28_b := f28.le;refine zcq X X<|zI (v := (.pointer (some _))) X X X<|zI (v := (.int _ _)) X X X<|v_asP X X<|zw X X<|Y<|zo<|zd<|zh X X<|zcs X X X<|Y ?_;refine zai rfl (fun c29 => ?_) (fun c29 => ?_)
  ·exact absurd c29 (by decide)
  refine zz<|E<|zo<|zd<|v_mvP X X<|zt st18.sub (hc11.up le17) X zax zL X X<|zg st18 X X X Tryz.call124 X (c_leaf_book_has st18.sub (t := (t)) f28 hc25 (p := p))<|fun r30 w31 h32 le33 st34 q35=> ?_;subst q35;refine zbu X X<|Y ?_;refine zai rfl (fun c36 => ?_) (fun c36 => ?_)
  ·refine zd<|zag X X<|zw X X<|Y<|zx<|zc<|zaU Tryz.results85 ?_;refine ⟨h32, _, rfl, st34.done, ?_⟩;refine ⟨_, zdl rfl (zaf ?_), Box.nil ?_⟩
   ·simp_all
   simp_all
  refine zz<|E<|zd<|v_mvP X X<|v_asP X X<|zw X X<|Y<|zx<|zaU Tryz.results85 ?_;refine ⟨h32, _, rfl, st34.done, ?_⟩;refine ⟨_, zdl rfl (zaf ?_), Box.some ?_ (hc25.up le33) ⟨_, rfl, (f28.up le33)⟩⟩
  ·simp_all
  simp_all
 simp only [hb20, if_true, if_false, Bool.false_eq_true, reduceIte] at q19;obtain ⟨v37, rfl, f38⟩ := q19;subst f38;refine zcq X X<|zI (v := (.pointer none)) X X X<|zI (v := (.int _ _)) X X X<|zag X X<|zw X X<|Y<|zo<|zd<|zh X X<|zcs X X X<|Y ?_;refine zai rfl (fun c39 => ?_) (fun c39 => ?_)
 ·refine zd<|zh X X<|zag X X<|zw X X<|Y<|zx<|zc<|zaU Tryz.results85 ?_;refine ⟨h16, _, rfl, st18.done, ?_⟩;refine ⟨_, zdl rfl (zaf ?_), Box.nil ?_⟩
  ·simp_all
  simp_all
 exact absurd c39 (by decide)
theorem zhp {h : Heap} {w : World} (hs : Sub h w) {t : Text} {t_v0 : Value} (t_f0 : Sl LChapter h t_v0 t.chapters) {p : Place} : Calls Tryz.prog 37 #[.agg #[t_v0], .agg #[.int .i64 p.chapter, .int .i64 p.line, .int .i64 p.word]] w (Rets h w (fun _ _ res_ => res_ = .tuple #[zN ((if zbc t then (zgZ t p).getD [] else [])), .int .i64 ((if zbc t && zbm t p then 0 else if zbc t then 12 else 10))])) := by
 refine zR (n := 24) Tryz.func37 X X X<|have st0:=zbg hs;have t_f0_b:=t_f0.le;zd<|zH st0 (cs := [t_v0]) X X X<|fun b1 w2 h3 le4 hc5 st6=>zH st6 (cs := [.int .i64 (p.chapter), .int .i64 (p.line), .int .i64 (p.word)]) X X X<|fun b7 w8 h9 le10 hc11 st12=>zfo X X<|zw X X<|Y<|zd<|zt st12.sub (hc5.up le10) X zaY zah X X<|zt st12.sub hc11 X zax zL X X<|have l13:=le4.t le10;zg st12 X X X Tryz.call85 X (c_leaf_placed st12.sub (t := t) (t_f0.up l13) (p := p))<|fun r14 w15 h16 le17 st18 q19=> ?_
 rcases Bool.eq_false_or_eq_true (zbc (t) && zbm (t) (p)) with hb20 | hb20
 ·simp only [hb20, if_true, if_false, Bool.false_eq_true, reduceIte] at q19;obtain ⟨v21, rfl, f22⟩ := q19;obtain ⟨b23, vs24, rfl, hc25, hr26⟩ := f22;obtain ⟨v27, rfl, f28⟩ := hr26;have f28_b := f28.le;refine zcq X X<|zI (v := (.pointer (some _))) X X X<|zI (v := (.int _ _)) X X X<|v_asP X X<|zw X X<|Y<|zo<|zd<|zh X X<|zcs X X X<|Y ?_;refine zai rfl (fun c29 => ?_) (fun c29 => ?_)
  ·exact absurd c29 (by decide)
  refine zz<|E<|zo ?_;have q1 : zbm t p = true := by simp_all
  have q2 := place_eq t p;have q3 : 0 ≤ p.word ∧ p.word < (((zcV t p).getD []).length : Int) := by
   rw [q1] at q2;simp [inB] at q2;omega
  obtain ⟨wd, hwd⟩ : ∃ y_, (((zcV ((t)) (p)).getD []))[p.word.toNat]? = some y_ := zbD zr;refine zbr (er := ([], [], [], [], 0)) (dsts := [17, 18, 19, 20, 21, 22, 23, 4, 5]) st18 Tryz.mixed<|ze 0 [] X O O X X (fun hD wD τD hL hS hO  => (r_mvP X))<|ze 1 [] X O O X X (fun hD wD τD hL hS hO  => (zar (hL.sub hS) (hc11.up le17) X zax zL X)) ?_;refine zaG 2 (.res (fun h' res_ => Sl LStr h' res_ ((zcV ((t)) (p)).getD [])) (fun _ _ _ hl f => f.up hl)) [1, 0] rfl O O ?_ ?_
  ·intro hD wD τD hL hS hO _ _ _ _;have st30 := St.start hS;refine zg st30 X X X Tryz.call86 X (zjl st30.sub (t := (t)) (f28.up hL) (hc25.up hL) (p := p))<|fun r31 w32 h33 le34 st35 q36=> ?_;obtain ⟨v37, e39, f38⟩ := q36;rw [← e39] at f38;have f38_b := f38.le;exact zp ⟨_, _, rfl, st35, _, rfl, f38⟩
  refine ze 3 [] X O O X X (fun hD wD τD hL hS hO  => (zS X zan X zm X))<|ze 4 [0] X O O X X (fun hD wD τD hL hS hO _ _ => (zi (j := 2) (hL.sub hS) (hc11.up le17) X X X zB)) ?_;refine zaG 5 (.res (fun h' res_ => ∃ b o, res_ = .pointer (some ⟨b, o, none⟩) ∧ Cells h' b o [zN wd]) (by rintro _ _ _ hl ⟨b, o, e, c⟩; exact ⟨b, o, e, c.up hl⟩)) [2, 0] rfl O O ?_ ?_
  ·intro hD wD τD hL hS hO gv2_0 gf2_0 _ _;have st40 := St.start hS;obtain ⟨b_, o_, _, he_, hc_, hr_⟩ := Sl.elem gf2_0 hwd;obtain ⟨rfl, ls41⟩ := hr_;simp only [big] at ls41;refine zf rfl rfl (zay he_ rfl rfl (hk := (show _ = ((p.word.toNat : Nat) : Int) by omega)) (hu := zV) (hz := zal)) ?_;exact zp ⟨_, _, rfl, st40, _, rfl, _, _, rfl, hc_⟩
  refine zaG 6 (.det (zN wd)) [0] rfl O O ?_ ?_
  ·intro hD wD τD hL hS hO gv5_ gf5_;obtain ⟨gb5, go5, rfl, gc5⟩ := gf5_;have st42 := St.start hS;refine M (j := 0) hS gc5 X X X zav X ?_;exact zp ⟨_, _, rfl, st42, (), rfl, trivial⟩
  refine ze 7 [6, 5, 4, 3, 2, 1, 0] X O O X X (fun hD wD τD hL hS hO _ _ _ _ gv2_0 gf2_0 _ _ _ _ gv5_ gf5_ _ _ => (r_asS X))<|ze 8 [7, 6, 5, 4, 3, 2, 1, 0] X O O X X (fun hD wD τD hL hS hO _ _ _ _ gv2_0 gf2_0 _ _ _ _ gv5_ gf5_ _ _ _ _ => (r_asI X))<|zcj X X X X X X ⟨O, X, O, X, O, X, X, O, zda⟩<|fun hE43 w44 _ le45 st46 _ _ _ _ gv2_0x47 gf2_0x47 _ _ _ _ gv5_x47 gf5_x47 _ _ _ _ _ _=> ?_;obtain ⟨gb5x47, go5x47, rfl, gc5x47⟩ := gf5_x47;refine AllDeps.fin X<|E<|zx<|zaU Tryz.results37 ?_;refine ⟨hE43, _, rfl, st46.done, ?_⟩;refine zdl (str_eq ?_) (zaf ?_)
  all_goals have qq : zbc t = true ∧ zbm t p = true := by simp_all
  ·simp [qq.1, word_some qq.2 hwd]
  simp [qq.1, qq.2]
 simp only [hb20, if_true, if_false, Bool.false_eq_true, reduceIte] at q19;obtain ⟨v48, rfl, f49⟩ := q19;subst f49;refine zcq X X<|zI (v := (.pointer none)) X X X<|zI (v := (.int _ _)) X X X<|zag X X<|zw X X<|Y<|zo<|zd<|zh X X<|zcs X X X<|Y ?_;refine zG rfl (fun c50 => ?_) (fun c50 => ?_)
 ·refine zd<|zh X X<|zfo X X<|zw X X<|Y<|zx<|zc<|zaU Tryz.results37 ?_;refine ⟨h16, _, rfl, st18.done, ?_⟩;refine zdl (str_eq ?_) (zaf ?_)
  all_goals have qq : zbc t = true → zbm t p = false := by simp_all
  ·cases q0 : zbc t
   ·rfl
   ·simp [word_none (qq q0)]
  cases q0 : zbc t
  ·rfl
  simp [qq q0]
 exfalso;revert c50;split <;> simp
end Go.Pk

namespace Go.Pk
open Go Go.RowKit Go.Proofs
theorem c_strings_indexFunc {s : Str} (hlen : s.length ≤ 281474976710656) {g : FuncId} {caps : List Value} (p : Int → Bool) (hp : ∀ x : Int, 128 ≤ x → p x = true)
  (hf : ∀ (x : Int) h w, Sub h w → Calls Tryz.prog g (.int .i32 x :: caps).toArray w (Rets h w fun _ _ r => r = .bool (p x)))
  (hg : ∀ a w, (callFunc g a).run Tryz.prog w = .ok (.enter g a) w) {h : Heap} {w : World} (hs : Sub h w) :
  Calls Tryz.prog 211 #[zN s, .func (.func g) #[] caps.toArray, .bool true] w (Rets h w fun _ _ r => ∃ k : Int, r = .int .i64 k ∧ (0 ≤ k ↔ (s.any fun c => p (c.toNat : Int)) = true)) := by
 refine zR (n := 21) Tryz.func211 X X X<|have st0:=zbg hs;zd<|zw X X<|Y<|zo<|zd<|zch X X<|OpsL.rangeS st0 X zat X<|fun b w1 st1=>Y<|zK ?_;refine zaB ([7, 8] ++ zcb 11 10 ++ [6]) (G := Nat × Heap) (fun ⟨k, _⟩ => []) (fun ⟨k, h'⟩ w' => Le h h' ∧ St h w h' w' [[(b, .stringIter ⟨s.toArray⟩ k)]] ∧ k ≤ s.length ∧ ∀ j c, j < k → s[j]? = some c → p (c.toNat : Int) = false) (fun ⟨k, _⟩ => s.length - k) ⟨0, h⟩ trivial ⟨Le.refl _, st1, by omega, by intros; omega⟩ ?_;rintro ⟨k, h2⟩ _ w2 ⟨le2, st2, hk, hall⟩
 rcases Nat.lt_or_ge k s.length with hlt | hge
 ·obtain ⟨c, hc⟩ : ∃ c, s[k]? = some c := ⟨_, List.getElem?_eq_getElem hlt⟩;refine zd<|OpsL.nextS st2 (k := 0) X X hc X<|fun w3 st3=> ?_;generalize hR : Utf8.decode ⟨s.toArray⟩ k = R at st3;refine zI (v := .bool _) X X X<|Y<|zo ?_;refine zai rfl (fun c1 => ?_) (fun c1 => ?_)
  ·refine zz ?_;refine E<|zK<|zd<|zI (v := .int _ _) X X X<|zI (v := .int _ _) X X X<|zw X X<|zw X X<|Y<|zd<|zhx X X<|zh X X ?_;refine zaw rfl rfl (zbT (fs := []) (cs := caps) rfl rfl hg rfl) ((hf (R.1 : Int) h2 w3 st3.sub).mono ?_);rintro e w4 ⟨h4, r4, rfl, s4, rfl⟩;refine ⟨_, rfl, ?_⟩;have st4 := st3.call0 s4;refine zX X X<|zf X X (r_beql X X zbn)<|Y ?_;refine zai rfl (fun c2 => ?_) (fun c2 => ?_)
   ·have c3 : p (R.1 : Int) = true := by simpa using c2
    refine zd<|zh X X<|zw X X<|Y<|zx ?_
    repeat (first | refine zD ?_ | refine zc ?_)
    refine zb Tryz.results211 ?_;refine ⟨h4, _, rfl, st4.done, (k : Int), rfl, ⟨fun _ => ?_, fun _ => by omega⟩⟩;rw [List.any_eq_true];refine ⟨c, List.mem_of_getElem? hc, ?_⟩
    by_cases hl : c.toNat < 128
    ·rw [decode_low hc hl] at hR; subst hR; exact c3
    ·exact hp _ zr
   ·have c3 : p (R.1 : Int) = false := by simpa using c2
    have hl : c.toNat < 128 := by
     rcases Nat.lt_or_ge c.toNat 128 with h5 | h5
     ·exact h5
     ·have q := decode_high hc zr;rw [hR] at q;rw [hp _ zr] at c3; cases c3
    rw [decode_low hc hl] at hR;subst hR;refine zz<|zQ ?_;refine ⟨⟨k + 1, h4⟩, trivial, ?_, ⟨le2.trans s4.le, st4, by omega, ?_⟩, ?_⟩
    ·exact zas
    ·intro j d hj hd
     rcases Nat.lt_or_ge j k with h3 | h3
     ·exact hall j d h3 hd
     ·obtain rfl : j = k := by omega
      rw [hc] at hd; cases hd;exact c3
    ·show s.length - (k + 1) < s.length - k;omega
  ·cases c1
 ·refine zo ?_;refine zn<|OpsL.nextE st2 (k := 0) X X hge X<|zI (v := .bool _) X X X<|Y<|zo ?_;refine zai rfl (fun c1 => ?_) (fun c1 => ?_)
  ·cases c1
  ·refine zaL ?_;refine zq<|zq<|zap<|E<|zd<|zw X X<|Y<|zx<|zb Tryz.results211 ?_;refine ⟨h2, _, rfl, st2.done, _, rfl, ⟨fun q => absurd q (by decide), fun q => ?_⟩⟩;rw [List.any_eq_true] at q;obtain ⟨c, hc, hpc⟩ := q;obtain ⟨j, hj⟩ := List.mem_iff_getElem?.1 hc;have hjl := (List.getElem?_eq_some_iff.1 hj).1;rw [hall j c zr hj] at hpc; cases hpc
theorem c_strings_IndexFunc {s : Str} (hlen : s.length ≤ 281474976710656) {g : FuncId} {caps : List Value} (p : Int → Bool) (hp : ∀ x : Int, 128 ≤ x → p x = true)
  (hf : ∀ (x : Int) h w, Sub h w → Calls Tryz.prog g (.int .i32 x :: caps).toArray w (Rets h w fun _ _ r => r = .bool (p x)))
  (hg : ∀ a w, (callFunc g a).run Tryz.prog w = .ok (.enter g a) w) {h : Heap} {w : World} (hs : Sub h w) :
  Calls Tryz.prog 198 #[zN s, .func (.func g) #[] caps.toArray] w (Rets h w fun _ _ r => ∃ k : Int, r = .int .i64 k ∧ (0 ≤ k ↔ (s.any fun c => p (c.toNat : Int)) = true)) := by
 refine zR (n := 8) Tryz.func198 X X X<|have st0:=zbg hs;zd<|zw X X<|Y<|zd<|zch X X<|zhx X X<|zg st0 X X X Tryz.call211 X (c_strings_indexFunc hlen p hp hf hg st0.sub) ?_;rintro v w1 h1 le1 st1 ⟨k, rfl, hk⟩;refine zw X X<|Y<|zx<|zb Tryz.results198 ?_;exact ⟨h1, _, rfl, st1.done, k, rfl, hk⟩
theorem zjC {s : Str} (hlen : s.length ≤ 281474976710656) {g : FuncId} {caps : List Value} (p : Int → Bool) (hp : ∀ x : Int, 128 ≤ x → p x = true)
  (hf : ∀ (x : Int) h w, Sub h w → Calls Tryz.prog g (.int .i32 x :: caps).toArray w (Rets h w fun _ _ r => r = .bool (p x)))
  (hg : ∀ a w, (callFunc g a).run Tryz.prog w = .ok (.enter g a) w) {h : Heap} {w : World} (hs : Sub h w) :
  Calls Tryz.prog 155 #[zN s, .func (.func g) #[] caps.toArray] w (Rets h w fun _ _ r => r = .bool (s.any fun c => p (c.toNat : Int))) := by
 refine zR (n := 9) Tryz.func155 X X X<|have st0:=zbg hs;zd<|zF X X<|Y<|zd<|zch X X<|zhx X X<|zg st0 X X X Tryz.call198 X (c_strings_IndexFunc hlen p hp hf hg st0.sub) ?_;rintro v w1 h1 le1 st1 ⟨k, rfl, hk⟩;refine zig X X X<|zF X X<|Y<|zx<|zb Tryz.results155 ?_;refine ⟨h1, _, rfl, st1.done, zy ?_⟩;rw [Bool.eq_iff_iff, decide_eq_true_eq];exact hk
end Go.Pk

namespace Go.Pk
open Go Go.RowKit Go.Proofs
theorem c_stem_letters_1 {h : Heap} {w : World} (hs : Sub h w) (c : Int) : Calls Tryz.prog 156 #[.int .i32 c] w (Rets h w (fun _ _ res_ => res_ = .bool ((decide (c < 97) || decide (122 < c))))) := by
 refine zR (n := 9) Tryz.func156 X X X<|have st0:=zbg hs;zd<|zF X X<|Y<|zd<|zh X X<|zaZ X X X<|zX X X ?_;refine zae (d := 5) rfl (fun g1 => ?_) (fun g1 => ?_)
 ·refine zM 2 X<|zP (v := (.bool _)) X X X<|zF X X<|Y<|zx<|zb Tryz.results156 ?_;refine ⟨h, _, rfl, st0.done, ?_⟩;refine zy ?_
  first | (simp_all; done) | (simp_all; omega)
 refine Z X X X<|zh X X<|Z X X X<|zdF X X X<|zO (v := (.bool _)) X X X<|zF X X<|Y<|zx<|zb Tryz.results156 ?_;refine ⟨h, _, rfl, st0.done, ?_⟩;refine zy ?_
 first | (simp_all; done) | (simp_all; omega)
theorem zfy {h : Heap} {w : World} (hs : Sub h w) (s : Str) (s_le : s.length ≤ 281474976710656) (lo : Int) : Calls Tryz.prog 109 #[zN s, .int .i64 lo] w (Rets h w (fun _ _ res_ => res_ = .bool (zcJ s lo))) := by
 refine zR (n := 15) Tryz.func109 X X X<|have st0:=zbg hs;zd<|zF X X<|Y<|zd<|zh X X<|zch X X<|zcv X zat X<|zam (L := LInt) (xs := [(s.length : Int)]) (cs := [.int .i64 (s.length : Int)]) st0 (Enc.cons (L := LInt) (vs := [.int .i64 (s.length : Int)]) (x := (s.length : Int)) (h := h) (X) Enc.nil) X X X zj Tryz.info3 X X X O<|fun v1 w2 h5 le6 f3 st4=>zg st4 X X X Tryz.call110 X (zjj st4.sub _ _ f3)<|fun r7 w8 h9 le10 st11 q12=> ?_;subst q12;refine zX X X ?_;refine zaA (d := 10) rfl (fun g13 => ?_) (fun g13 => ?_)
 ·refine Z X X X<|zch X X<|Z X X X ?_;refine zg st11 rfl rfl rfl Tryz.call155 rfl (zjC (s := s) zbj (fun x_ : Int => (decide ((x_) < 97) || decide (122 < (x_)))) (by intro x_ hx_; simp; omega) (fun x_ h_ w_ hs_ => c_stem_letters_1 hs_ x_) Tryz.call156 st11.sub) ?_;intro r14 w15 h16 le17 st18 q19;subst q19;refine Z X X X<|zbu X X<|zP (v := (.bool _)) X X X<|zF X X<|Y<|zx<|zb Tryz.results109 ?_;refine ⟨h16, _, rfl, st18.done, ?_⟩;refine zy ?_;rw [letters_eq];simp_all [zcK]
 refine zM 3 X<|zO (v := (.bool _)) X X X<|zF X X<|Y<|zx<|zb Tryz.results109 ?_;refine ⟨h9, _, rfl, st11.done, ?_⟩;refine zy ?_;rw [letters_eq];simp_all [zcK]
theorem zjD {h : Heap} {w : World} (hs : Sub h w) {hd : Head} (hd_l1 : hd.stem.length ≤ 281474976710656) (hd_l2 : 0 ≤ hd.mark ∧ hd.mark ≤ 255) : Calls Tryz.prog 131 #[.agg #[zN hd.stem, .int .u8 hd.mark]] w (Rets h w (fun _ _ res_ => res_ = .bool (zee hd))) := by
 refine zR (n := 11) Tryz.func131 X X X<|have st0:=zbg hs;zd<|zH st0 (cs := [zN (hd.stem), .int .u8 (hd.mark)]) X X X<|fun b1 w2 h3 le4 hc5 st6=>zF X X<|Y<|zd<|U X zbf X zal X X<|M (j := 0) st6.sub hc5 X X X zav X<|zg st6 X X X Tryz.call109 X (zfy st6.sub _ zbj _)<|fun r7 w8 h9 le10 st11 q12=> ?_;subst q12;refine zX X X ?_;refine zaA (d := 6) rfl (fun g13 => ?_) (fun g13 => ?_)
 ·refine Z X X X<|U X zbf X zbl X X<|Z X X X<|M (j := 1) st11.sub (hc5.up le10) X X X zbQ X<|Z X X X<|zf X X (r_leq X X)<|zP (v := (.bool _)) X X X<|zF X X<|Y<|zx<|zb Tryz.results131 ?_;refine ⟨h9, _, rfl, st11.done, ?_⟩;refine zy ?_;rw [head_eq _ zr];simp_all
 refine zM 3 X<|zO (v := (.bool _)) X X X<|zF X X<|Y<|zx<|zb Tryz.results131 ?_;refine ⟨h9, _, rfl, st11.done, ?_⟩;refine zy ?_;rw [head_eq _ zr];simp_all
end Go.Pk
