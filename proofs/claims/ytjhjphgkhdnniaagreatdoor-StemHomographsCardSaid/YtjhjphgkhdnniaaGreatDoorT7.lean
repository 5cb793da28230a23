/- A PART OF THE PROOF: contracts of functions, each walked once (much of it printed by a program of the author's own). -/
import Derived.Test.YtjhjphgkhdnniaaGreatDoorT5
import Derived.Test.YtjhjphgkhdnniaaGreatDoorT4
set_option linter.unusedSimpArgs false
set_option linter.unusedVariables false
set_option maxRecDepth 4000
namespace Go.Pk
open Go Go.RowKit Go.Proofs
theorem zcu {h : Heap} {w : World} (hs : Sub h w) (n : Int) (lo : Int) (hi : Int) : Calls Tryz.prog 86 #[.int .i64 n, .int .i64 lo, .int .i64 hi] w (Rets h w (fun _ _ res_ => res_ = .bool (inB n lo hi))) := by
 refine zM (n := 15) Tryz.func86 Y Y Y<|have st0:=zcf hs;zm<|zJ Y Y<|M<|zm<|zy Y Y<|zy Y Y<|v_geq Y Y Y<|zag Y Y ?_;refine zaT (d := 10) rfl (fun g1 => ?_) (fun g1 => ?_)
 ·refine U Y Y Y<|zy Y Y<|U Y Y Y<|zy Y Y<|U Y Y Y<|Z Y Y (r_leq Y Y)<|zak (v := (.bool _)) Y Y Y<|zJ Y Y<|M<|zw<|zg Tryz.results86 ?_;refine ⟨h, _, rfl, st0.done, ?_⟩;refine zA ?_;simp [inB, *]
 refine zP 3 Y<|zT (v := (.bool _)) Y Y Y<|zJ Y Y<|M<|zw<|zg Tryz.results86 ?_;refine ⟨h, _, rfl, st0.done, ?_⟩;refine zA ?_;simp [inB, *]
theorem zdR {h : Heap} {w : World} (hs : Sub h w) (n : Int) (lo : Int) (hi : Int) : Calls Tryz.prog 152 #[.int .i64 n, .int .i64 lo, .int .i64 hi] w (Rets h w (fun _ _ res_ => res_ = .bool (inB n lo hi))) := by
 refine zM (n := 15) Tryz.func152 Y Y Y<|have st0:=zcf hs;zm<|zJ Y Y<|M<|zm<|zy Y Y<|zy Y Y<|v_geq Y Y Y<|zag Y Y ?_;refine zaT (d := 10) rfl (fun g1 => ?_) (fun g1 => ?_)
 ·refine U Y Y Y<|zy Y Y<|U Y Y Y<|zy Y Y<|U Y Y Y<|Z Y Y (r_leq Y Y)<|zak (v := (.bool _)) Y Y Y<|zJ Y Y<|M<|zw<|zg Tryz.results152 ?_;refine ⟨h, _, rfl, st0.done, ?_⟩;refine zA ?_;simp [inB, *]
 refine zP 3 Y<|zT (v := (.bool _)) Y Y Y<|zJ Y Y<|M<|zw<|zg Tryz.results152 ?_;refine ⟨h, _, rfl, st0.done, ?_⟩;refine zA ?_;simp [inB, *]
theorem zeZ {h : Heap} {w : World} (hs : Sub h w) (s : Str) (s_le : s.length ≤ 281474976710656) : Calls Tryz.prog 87 #[zx s] w (Rets h w (fun _ _ res_ => res_ = .bool (zbS s))) := by
 refine zM (n := 23) Tryz.func87 Y Y Y<|have st0:=zcf hs;zm<|zJ Y Y<|M<|zl<|zm<|zH Y Y<|M<|zN ?_;refine zaR (zdA 2 18) (G := Nat × Heap) (fun ⟨k, h1⟩ => [(3, .int .i64 (k : Int))]) (fun ⟨k, h1⟩ w' => Le h h1 ∧ St h w h1 w' [] ∧ (k ≤ s.length) ∧ ((s.take k).all isL = true)) (fun ⟨k, h1⟩ => s.length - k) ⟨0, h⟩ ⟨rfl, trivial⟩ ⟨Le.refl _, st0, zbP, zbP⟩ ?_;rintro ⟨k, h1⟩ _ w4 ⟨le2, st3, hk, ht⟩;refine zl<|zm<|zy Y Y<|zcE Y Y<|zcN Y zaz Y<|zbV Y Y Y<|M ?_;refine zV rfl (fun c5 => ?_) (fun c5 => ?_)
 ·refine zB<|E<|zl<|zN<|zm<|zcE Y Y<|zy Y Y ?_;obtain ⟨y6, hy6⟩ : ∃ y_, (s)[k]? = some y_ := zdl zD;refine Z Y Y (ziw Y Y (hk := Y) (hb := hy6) (hu := zaz))<|zbV Y Y Y<|zag Y Y ?_;refine zaT (d := 14) rfl (fun g7 => ?_) (fun g7 => ?_)
  ·refine zP 4 Y<|zak (v := (.bool _)) Y Y Y<|M ?_;refine zQ rfl (fun c8 => ?_) (fun c8 => ?_)
   ·refine zm<|zJ Y Y<|M<|zw<|zI<|zi<|zi<|zI<|zi<|zg Tryz.results87 ?_;refine ⟨h1, _, rfl, st3.done, ?_⟩;refine zA ?_;have hn := zcH (p := isL) (by assumption) (by simp [isL]; omega);simp [zbS, zcI, hn]
   cases c8
  refine U Y Y Y<|zcE Y Y<|U Y Y Y<|zy Y Y<|U Y Y Y<|Z Y Y (ziw Y Y (hk := Y) (hb := hy6) (hu := zaz))<|U Y Y Y<|zeQ Y Y Y<|zT (v := (.bool _)) Y Y Y<|M ?_;refine zV rfl (fun c9 => ?_) (fun c9 => ?_)
  ·refine zm<|zJ Y Y<|M<|zw<|zI<|zi<|zi<|zI<|zi<|zg Tryz.results87 ?_;refine ⟨h1, _, rfl, st3.done, ?_⟩;refine zA ?_;have hn := zcH (p := isL) (by assumption) (by simp [isL]; omega);simp [zbS, zcI, hn]
  refine zB<|zX<|E<|zf<|zy Y Y<|zbK Y Y zbQ Y<|zH Y Y<|M ?_;refine ⟨⟨k + 1, h1⟩, ⟨rfl, trivial⟩, ?_, ⟨le2, st3, ?_, ?_⟩, ?_⟩
  ·exact zbs
  ·first | omega | (simp; omega)
  ·exact zcr ht (by assumption) (by simp [isL, *]; omega)
  show s.length - ((k + 1)) < s.length - k;omega
 refine zaX<|zt<|zt<|zaK<|E<|zm<|zcE Y Y<|zcN Y zaz Y<|zk st3 Y Y Y zht Y (zcu st3.sub _ _ _)<|fun r10 w11 h12 le13 st14 q15=> ?_;subst q15;refine zJ Y Y<|M<|zw<|zg Tryz.results87 ?_;refine ⟨h12, _, rfl, st14.done, ?_⟩;refine zA ?_;have hn := zde ht zD;simp [zbS, zcI, hn]
theorem zgR {h : Heap} {w : World} (hs : Sub h w) (s : Str) (s_le : s.length ≤ 281474976710656) (lo : Int) : Calls Tryz.prog 151 #[zx s, .int .i64 lo] w (Rets h w (fun _ _ res_ => res_ = .bool (zcI s lo))) := by
 refine zM (n := 26) Tryz.func151 Y Y Y<|have st0:=zcf hs;zm<|zJ Y Y<|M<|zl<|zm<|zH Y Y<|M<|zN ?_;refine zaR (zdA 4 18) (G := Nat × Heap) (fun ⟨k, h1⟩ => [(5, .int .i64 (k : Int))]) (fun ⟨k, h1⟩ w' => Le h h1 ∧ St h w h1 w' [] ∧ (k ≤ s.length) ∧ ((s.take k).all isL = true)) (fun ⟨k, h1⟩ => s.length - k) ⟨0, h⟩ ⟨rfl, trivial⟩ ⟨Le.refl _, st0, zbP, zbP⟩ ?_;rintro ⟨k, h1⟩ _ w4 ⟨le2, st3, hk, ht⟩;refine zl<|zm<|zy Y Y<|zcE Y Y<|zcN Y zaz Y<|zbV Y Y Y<|M ?_;refine zV rfl (fun c5 => ?_) (fun c5 => ?_)
 ·refine zB<|E<|zl<|zN<|zm<|zcE Y Y<|zy Y Y ?_;obtain ⟨y6, hy6⟩ : ∃ y_, (s)[k]? = some y_ := zdl zD;refine Z Y Y (ziw Y Y (hk := Y) (hb := hy6) (hu := zaz))<|zbV Y Y Y<|zag Y Y ?_;refine zaT (d := 16) rfl (fun g7 => ?_) (fun g7 => ?_)
  ·refine zP 4 Y<|zak (v := (.bool _)) Y Y Y<|M ?_;refine zQ rfl (fun c8 => ?_) (fun c8 => ?_)
   ·refine zm<|zJ Y Y<|M<|zw<|zI<|zi<|zi<|zI<|zi<|zg Tryz.results151 ?_;refine ⟨h1, _, rfl, st3.done, ?_⟩;refine zA ?_;have hn := zcH (p := isL) (by assumption) (by simp [isL]; omega);simp [zbS, zcI, hn]
   cases c8
  refine U Y Y Y<|zcE Y Y<|U Y Y Y<|zy Y Y<|U Y Y Y<|Z Y Y (ziw Y Y (hk := Y) (hb := hy6) (hu := zaz))<|U Y Y Y<|zeQ Y Y Y<|zT (v := (.bool _)) Y Y Y<|M ?_;refine zV rfl (fun c9 => ?_) (fun c9 => ?_)
  ·refine zm<|zJ Y Y<|M<|zw<|zI<|zi<|zi<|zI<|zi<|zg Tryz.results151 ?_;refine ⟨h1, _, rfl, st3.done, ?_⟩;refine zA ?_;have hn := zcH (p := isL) (by assumption) (by simp [isL]; omega);simp [zbS, zcI, hn]
  refine zB<|zX<|E<|zf<|zy Y Y<|zbK Y Y zbQ Y<|zH Y Y<|M ?_;refine ⟨⟨k + 1, h1⟩, ⟨rfl, trivial⟩, ?_, ⟨le2, st3, ?_, ?_⟩, ?_⟩
  ·exact zbs
  ·first | omega | (simp; omega)
  ·exact zcr ht (by assumption) (by simp [isL, *]; omega)
  show s.length - ((k + 1)) < s.length - k;omega
 refine zaX<|zt<|zt<|zaK<|E<|zm<|zcE Y Y<|zcN Y zaz Y<|zy Y Y<|zk st3 Y Y Y Tryz.call152 Y (zdR st3.sub _ _ _)<|fun r10 w11 h12 le13 st14 q15=> ?_;subst q15;refine zJ Y Y<|M<|zw<|zg Tryz.results151 ?_;refine ⟨h12, _, rfl, st14.done, ?_⟩;refine zA ?_;have hn := zde ht zD;simp [zbS, zcI, hn]
theorem c_postilref04_Rule {h : Heap} {w : World} (hs : Sub h w) {r : Rule} (r_l1 : r.cut.length ≤ 281474976710656) (r_l2 : r.put.length ≤ 281474976710656) : Calls Tryz.prog 99 #[.agg #[zx r.cut, zx r.put, .int .i64 r.least]] w (Rets h w (fun _ _ res_ => res_ = .bool (zhl r))) := by
 refine zM (n := 23) Tryz.func99 Y Y Y<|have st0:=zcf hs;zm<|zC st0 (cs := [zx (r.cut), zx (r.put), .int .i64 (r.least)]) Y Y Y<|fun b1 w2 h3 le4 hc5 st6=>zJ Y Y<|M<|zm<|zc Y zbt Y zY Y Y<|zd (j := 0) st6.sub hc5 Y Y Y zau Y<|zk st6 Y Y Y Tryz.call151 Y (zgR st6.sub _ zbd _)<|fun r7 w8 h9 le10 st11 q12=> ?_;subst q12;refine zag Y Y ?_;refine zaL (d := 6) rfl (fun g13 => ?_) (fun g13 => ?_)
 ·refine U Y Y Y<|zc Y zbt Y zY Y Y<|U Y Y Y<|zd (j := 1) st11.sub (hc5.up le10) Y Y Y zau Y<|U Y Y Y<|zk st11 Y Y Y Tryz.call151 Y (zgR st11.sub _ zbd _)<|fun r14 w15 h16 le17 st18 q19=> ?_;subst q19;refine zak (v := (.bool _)) Y Y Y<|zag Y Y ?_;refine zaL (d := 11) rfl (fun g20 => ?_) (fun g20 => ?_)
  ·refine U Y Y Y<|zc Y zbt Y zY Y Y<|U Y Y Y<|zd (j := 0) st18.sub (hc5.up (le10.t le17)) Y Y Y zau Y<|U Y Y Y<|zc Y zbt Y zY Y Y<|U Y Y Y<|zd (j := 1) st18.sub (hc5.up (le10.t le17)) Y Y Y zau Y<|U Y Y Y<|Z Y Y (r_sneq Y Y)<|zak (v := (.bool _)) Y Y Y<|zag Y Y ?_;refine zaT (d := 18) rfl (fun g21 => ?_) (fun g21 => ?_)
   ·refine U Y Y Y<|zc Y zbt Y zL Y Y<|U Y Y Y<|zd (j := 2) st18.sub (hc5.up (le10.t le17)) Y Y Y zU Y<|U Y Y Y<|zk st18 Y Y Y Tryz.call152 Y (zdR st18.sub _ _ _)<|fun r22 w23 h24 le25 st26 q27=> ?_;subst q27;refine zak (v := (.bool _)) Y Y Y<|zJ Y Y<|M<|zw<|zg Tryz.results99 ?_;refine ⟨h24, _, rfl, st26.done, ?_⟩;refine zA ?_;simp_all [zhl]
   refine zP 3 Y<|zT (v := (.bool _)) Y Y Y<|zJ Y Y<|M<|zw<|zg Tryz.results99 ?_;refine ⟨h16, _, rfl, st18.done, ?_⟩;refine zA ?_;simp_all [zhl]
  refine zP 5 Y<|zT (v := (.bool _)) Y Y Y<|zag Y Y<|zP 3 Y<|zT (v := (.bool _)) Y Y Y<|zJ Y Y<|M<|zw<|zg Tryz.results99 ?_;refine ⟨h16, _, rfl, st18.done, ?_⟩;refine zA ?_;simp_all [zhl]
 refine zP 3 Y<|zT (v := (.bool _)) Y Y Y<|zag Y Y<|zP 5 Y<|zT (v := (.bool _)) Y Y Y<|zag Y Y<|zP 3 Y<|zT (v := (.bool _)) Y Y Y<|zJ Y Y<|M<|zw<|zg Tryz.results99 ?_;refine ⟨h9, _, rfl, st11.done, ?_⟩;refine zA ?_;simp_all [zhl]
theorem zgd {h : Heap} {w : World} (hs : Sub h w) {hd : Head} (hd_l1 : hd.stem.length ≤ 281474976710656) (hd_l2 : 0 ≤ hd.mark ∧ hd.mark ≤ 255) : Calls Tryz.prog 154 #[.agg #[zx hd.stem, .int .u8 hd.mark]] w (Rets h w (fun _ _ res_ => res_ = .bool (zfN hd))) := by
 refine zM (n := 12) Tryz.func154 Y Y Y<|have st0:=zcf hs;zm<|zC st0 (cs := [zx (hd.stem), .int .u8 (hd.mark)]) Y Y Y<|fun b1 w2 h3 le4 hc5 st6=>zJ Y Y<|M<|zm<|zc Y zdD Y zY Y Y<|zd (j := 0) st6.sub hc5 Y Y Y zau Y<|zk st6 Y Y Y Tryz.call87 Y (zeZ st6.sub _ zbd)<|fun r7 w8 h9 le10 st11 q12=> ?_;subst q12;refine zag Y Y ?_;refine zaL (d := 6) rfl (fun g13 => ?_) (fun g13 => ?_)
 ·refine U Y Y Y<|zc Y zdD Y zbc Y Y<|U Y Y Y<|zd (j := 1) st11.sub (hc5.up le10) Y Y Y zbp Y<|U Y Y Y ?_;refine Z rfl rfl (zfv rfl rfl zbo (IntWalk.i64_in _ zD)) ?_;refine U Y Y Y<|zk st11 Y Y Y Tryz.call152 Y (zdR st11.sub _ _ _)<|fun r14 w15 h16 le17 st18 q19=> ?_;subst q19;refine zak (v := (.bool _)) Y Y Y<|zJ Y Y<|M<|zw<|zg Tryz.results154 ?_;refine ⟨h16, _, rfl, st18.done, ?_⟩;refine zA ?_;simp_all [zfN]
 refine zP 4 Y<|zT (v := (.bool _)) Y Y Y<|zJ Y Y<|M<|zw<|zg Tryz.results154 ?_;refine ⟨h9, _, rfl, st11.done, ?_⟩;refine zA ?_;simp_all [zfN]
end Go.Pk

namespace Go.Pk
open Go Go.RowKit Go.Proofs
theorem c_postilref01_Text {h : Heap} {w : World} (hs : Sub h w) {t : Text} {t_v0 : Value} (t_f0 : Sl LChapter h t_v0 t.chapters) : Calls Tryz.prog 54 #[.agg #[t_v0]] w (Rets h w (fun _ _ res_ => res_ = .bool (zaM t))) := by
 refine zM (n := 85) Tryz.func54 Y Y Y<|have st0:=zcf hs;have t_f0_b:=t_f0.le;zm<|zC st0 (cs := [t_v0]) Y Y Y<|fun b1 w2 h3 le4 hc5 st6=>zJ Y Y<|M<|zl<|zm<|zc Y zaJ Y zbh Y Y<|zd (j := 0) st6.sub hc5 Y Y Y zbD Y<|zbr (t_f0.up le4) Y zao Y<|zk st6 Y Y Y zht Y (zcu st6.sub _ _ _)<|fun r7 w8 h9 le10 st11 q12=> ?_;subst q12;refine zce Y Y<|M ?_;refine zQ rfl (fun c13 => ?_) (fun c13 => ?_)
 ·refine zm<|zJ Y Y<|M<|zw<|zi<|zg zfA ?_;refine ⟨h9, _, rfl, st11.done, ?_⟩;refine zA ?_;simp_all [zaM]
 refine zB<|E<|zl<|zm<|zH Y Y<|M<|zN ?_;refine zaR (zdA 2 6 ++ zdA 13 72) (G := Nat × Heap) (fun ⟨i, h14⟩ => [(3, .int .i64 (i : Int))]) (fun ⟨i, h14⟩ w' => Le h9 h14 ∧ St h w h14 w' [] ∧ (i ≤ t.chapters.length) ∧ ((t.chapters.take i).all zbl = true) ∧ (((t.chapters.take i).map (·.id)).Nodup)) (fun ⟨i, h14⟩ => t.chapters.length - i) ⟨0, h9⟩ ⟨rfl, trivial⟩ ⟨Le.refl _, st11, zbP, zbP, zbP⟩ ?_;rintro ⟨i, h14⟩ _ w17 ⟨le15, st16, hi, hA, hN⟩;refine zl<|zm<|zy Y Y<|zc Y zaJ Y zbh Y Y<|zd (j := 0) st16.sub (hc5.up (le10.t le15)) Y Y Y zbD Y<|have l18:=(le4.t le10).t le15;zbr (t_f0.up l18) Y zao Y<|zbV Y Y Y<|M ?_;refine zV rfl (fun c19 => ?_) (fun c19 => ?_)
 ·refine zB<|E<|zl<|zN<|zm<|zc Y zaJ Y zbh Y Y<|zd (j := 0) st16.sub (hc5.up (le10.t le15)) Y Y Y zbD Y<|zy Y Y ?_;obtain ⟨c, hc⟩ : ∃ y_, (t.chapters)[i]? = some y_ := zdl zD;obtain ⟨b20, o21, _, he23, hc22, hr_c⟩ := Sl.elem (t_f0.up l18) hc;obtain ⟨v24, rfl, f25⟩ := hr_c;have f25_b := f25.le;refine zaH he23 Y Y (hk := Y) (hu := zao) (hz := zaU) Y<|zp st16.sub hc22 Y zfD zaU Y Y<|zO st16 zdS Y Y<|fun b26 w27 st28=>zF st28 (k := 0) Y Y Y (za Y (za f25.one zat)) zaU Y Y Y<|fun w29 st30=> ?_;obtain ⟨h31, le32, hb33, st35⟩ := st30.freeze (k := 0) rfl;have hc34 := Cells.of hb33;refine M<|zl<|zm<|zc Y zav Y zL Y Y<|zd (j := 0) st35.sub hc34 Y Y Y zU Y<|zk st35 Y Y Y zht Y (zcu st35.sub _ _ _)<|fun r36 w37 h38 le39 st40 q41=> ?_;subst q41;refine zce Y Y<|zag Y Y ?_;refine zaL (d := 29) rfl (fun g42 => ?_) (fun g42 => ?_)
  ·refine zP 5 Y<|zak (v := (.bool _)) Y Y Y<|M ?_;refine zQ rfl (fun c43 => ?_) (fun c43 => ?_)
   ·refine zm<|zJ Y Y<|M<|zw<|zi<|zI<|zi<|zi<|zI<|zi<|zg zfA ?_;refine ⟨h38, _, rfl, st40.done, ?_⟩;refine zA ?_;have q0 : zbl c = false := by simp_all [zbl]
    have q := zcH (p := zbl) hc q0;simp [zaM, q]
   cases c43
  refine U Y Y Y<|zc Y zav Y zbj Y Y<|U Y Y Y<|zd (j := 1) st40.sub (hc34.up le39) Y Y Y zbJ Y<|U Y Y Y<|zbr (f25.up (le32.t le39)) Y zas Y<|U Y Y Y<|zk st40 Y Y Y zht Y (zcu st40.sub _ _ _)<|fun r44 w45 h46 le47 st48 q49=> ?_;subst q49;refine U Y Y Y<|zce Y Y<|zT (v := (.bool _)) Y Y Y<|M ?_;refine zQ rfl (fun c50 => ?_) (fun c50 => ?_)
  ·refine zm<|zJ Y Y<|M<|zw<|zi<|zI<|zi<|zi<|zI<|zi<|zg zfA ?_;refine ⟨h46, _, rfl, st48.done, ?_⟩;refine zA ?_;have q0 : zbl c = false := by simp_all [zbl]
   have q := zcH (p := zbl) hc q0;simp [zaM, q]
  refine zB<|E<|zl<|zm<|zH Y Y<|M<|zN ?_;refine zaR ([2, 5] ++ zdA 36 14) (G := Nat × Heap) (fun ⟨k1, h51⟩ => [(5, .int .i64 (k1 : Int))]) (fun ⟨k1, h51⟩ w' => Le h46 h51 ∧ St h w h51 w' [[]] ∧ (k1 ≤ i) ∧ (∀ j c2, j < k1 → t.chapters[j]? = some c2 → c2.id ≠ c.id)) (fun ⟨k1, h51⟩ => i - k1) ⟨0, h46⟩ ⟨rfl, trivial⟩ ⟨Le.refl _, st48, zbP, (by intro j _ hj; omega)⟩ ?_;rintro ⟨k1, h51⟩ _ w54 ⟨le52, st53, hk1, hd⟩;refine zl<|zm<|zy Y Y<|zy Y Y<|zbV Y Y Y<|M ?_;refine zV rfl (fun c55 => ?_) (fun c55 => ?_)
  ·refine zB<|E<|zl<|zN<|zl<|zdE Tryz.mixed zh (Cls h51 _) (Cls.drew st53)<|zaY Y zaJ Y zbh Y Y<|have l56:=((((le10.t le15).t le32).t le39).t le47).t le52;zab Y Y (fun _ hC => (zj (j := 0) hC.sub (hc5.up l56) Y Y Y zbD))<|zfM Y Y ?_;obtain ⟨cc, hcc⟩ : ∃ y_, (t.chapters)[k1]? = some y_ := zdl zD;have l61 := (((l18.t le32).t le39).t le47).t le52;obtain ⟨b57, o58, _, he60, hc59, hr_cc⟩ := Sl.elem (t_f0.up l61) hcc;obtain ⟨v62, rfl, f63⟩ := hr_cc;have f63_b := f63.le;refine zdy he60 Y Y (hk := Y) (hu := zao) (hz := zaU) Y<|zaY Y zav Y zL Y Y<|zab Y Y (fun _ hC => (zj (j := 0) hC.sub hc59 Y Y Y zU))<|zaY Y zav Y zL Y Y<|zab Y Y (fun _ hC => (zj (j := 0) hC.sub (hc34.up ((le39.t le47).t le52)) Y Y Y zU))<|u_eql Y Y Y<|zdU ?_;rintro w64 ⟨h65, s66⟩;have st67 := st53.call0 s66;refine E ?_;refine zV rfl (fun c68 => ?_) (fun c68 => ?_)
   ·refine zm<|zJ Y Y<|M<|zw<|zI<|zi<|zi<|zI<|zi<|zI<|zi<|zi<|zI<|zi<|zg zfA ?_;refine ⟨h65, _, rfl, st67.done, ?_⟩;refine zA ?_;have q := zja (f := (·.id)) hcc hc zD (by assumption);simp [zaM, q]
   refine zB<|zX<|E<|zf<|zy Y Y<|zbK Y Y zbQ Y<|zH Y Y<|M ?_;refine ⟨⟨k1 + 1, h65⟩, ⟨rfl, trivial⟩, ?_, ⟨(le52.trans s66.le), st67, ?_, ?_⟩, ?_⟩
   ·exact zbs
   ·first | omega | (simp; omega)
   ·intro j c2 h1 h2
    rcases Nat.lt_or_ge j k1 with h3 | h3
    ·exact hd j c2 h3 h2
    ·obtain rfl : j = k1 := by omega
     rw [h2] at hcc; cases hcc; assumption
   show i - ((k1 + 1)) < i - k1;omega
  refine zaX<|zt<|zt<|zaK<|E<|zm<|zH Y Y<|M<|zN ?_;refine zaR ([2, 6, 7] ++ zdA 50 35) (G := Nat × Heap) (fun ⟨k2, h69⟩ => [(6, .int .i64 (k2 : Int))]) (fun ⟨k2, h69⟩ w' => Le h51 h69 ∧ St h w h69 w' [[]] ∧ (k2 ≤ c.lines.length) ∧ ((c.lines.take k2).all zfn = true)) (fun ⟨k2, h69⟩ => c.lines.length - k2) ⟨0, h51⟩ ⟨rfl, trivial⟩ ⟨Le.refl _, st53, zbP, zbP⟩ ?_;rintro ⟨k2, h69⟩ _ w72 ⟨le70, st71, hk2, hl⟩;refine zl<|zm<|zy Y Y<|zc Y zav Y zbj Y Y<|have l73:=((le39.t le47).t le52).t le70;zd (j := 1) st71.sub (hc34.up l73) Y Y Y zbJ Y<|have l74:=(((le32.t le39).t le47).t le52).t le70;zbr (f25.up l74) Y zas Y<|zbV Y Y Y<|M ?_;refine zV rfl (fun c75 => ?_) (fun c75 => ?_)
  ·refine zB<|E<|zl<|zN<|zl<|zm<|zc Y zav Y zbj Y Y<|zd (j := 1) st71.sub (hc34.up l73) Y Y Y zbJ Y<|zy Y Y ?_;obtain ⟨ln, hln⟩ : ∃ y_, (c.lines)[k2]? = some y_ := zdl zD;obtain ⟨b76, o77, _, he79, hc78, hr_ln⟩ := Sl.elem (f25.up l74) hln;obtain ⟨v80, rfl, f81⟩ := hr_ln;have f81_b := f81.le;refine zaH he79 Y Y (hk := Y) (hu := zas) (hz := zcV) Y<|zd (j := 0) st71.sub hc78 Y Y Y zdh Y<|zbr f81 Y zr Y<|zk st71 Y Y Y zht Y (zcu st71.sub _ _ _)<|fun r82 w83 h84 le85 st86 q87=> ?_;subst q87;refine zce Y Y<|M ?_;refine zQ rfl (fun c88 => ?_) (fun c88 => ?_)
   ·refine zm<|zJ Y Y<|M<|zw<|zi<|zI<|zi<|zi<|zI<|zI<|zi<|zi<|zI<|zi<|zg zfA ?_;refine ⟨h84, _, rfl, st86.done, ?_⟩;refine zA ?_;have q1 : zfn ln = false := by simp_all [zfn]
    have q2 := zcH (p := zfn) hln q1;have q0 : zbl c = false := by simp [zbl, q2]
    have q := zcH (p := zbl) hc q0;simp [zaM, q]
   refine zB<|E<|zm<|zH Y Y<|M<|zN ?_;refine zaR ([2, 7] ++ zdA 65 20) (G := Nat × Heap) (fun ⟨k3, h89⟩ => [(7, .int .i64 (k3 : Int))]) (fun ⟨k3, h89⟩ w' => Le h84 h89 ∧ St h w h89 w' [[]] ∧ (k3 ≤ ln.length) ∧ ((ln.take k3).all zbS = true)) (fun ⟨k3, h89⟩ => ln.length - k3) ⟨0, h84⟩ ⟨rfl, trivial⟩ ⟨Le.refl _, st86, zbP, zbP⟩ ?_;rintro ⟨k3, h89⟩ _ w92 ⟨le90, st91, hk3, hw⟩;refine zl<|zm<|zy Y Y<|zc Y zav Y zbj Y Y<|zd (j := 1) st91.sub (hc34.up ((l73.t le85).t le90)) Y Y Y zbJ Y<|zy Y Y<|zaH he79 Y Y (hk := Y) (hu := zas) (hz := zcV) Y<|zd (j := 0) st91.sub (hc78.up (le85.t le90)) Y Y Y zdh Y<|zbr (f81.up (le85.t le90)) Y zr Y<|zbV Y Y Y<|M ?_;refine zV rfl (fun c93 => ?_) (fun c93 => ?_)
   ·refine zB<|E<|zl<|zN<|zm<|zc Y zav Y zbj Y Y<|zd (j := 1) st91.sub (hc34.up ((l73.t le85).t le90)) Y Y Y zbJ Y<|zy Y Y<|zaH he79 Y Y (hk := Y) (hu := zas) (hz := zcV) Y<|zd (j := 0) st91.sub (hc78.up (le85.t le90)) Y Y Y zdh Y<|zy Y Y ?_;obtain ⟨y94, hy94⟩ : ∃ y_, (ln)[k3]? = some y_ := zdl zD;obtain ⟨b95, o96, _, he98, hc97, hr_y94⟩ := Sl.elem (f81.up (le85.t le90)) hy94;obtain ⟨rfl, ls99⟩ := hr_y94;simp only [big] at ls99;refine zaH he98 Y Y (hk := Y) (hu := zr) (hz := zY) Y<|zd (j := 0) st91.sub hc97 Y Y Y zau Y<|zk st91 Y Y Y Tryz.call87 Y (zeZ st91.sub _ zbd)<|fun r100 w101 h102 le103 st104 q105=> ?_;subst q105;refine zce Y Y<|M ?_;refine zQ rfl (fun c106 => ?_) (fun c106 => ?_)
    ·refine zm<|zJ Y Y<|M<|zw<|zI<|zi<|zi<|zI<|zI<|zi<|zi<|zI<|zI<|zi<|zi<|zI<|zi<|zg zfA ?_;refine ⟨h102, _, rfl, st104.done, ?_⟩;refine zA ?_;have q3 := zcH (p := zbS) (by assumption) (by simpa using c106);have q1 : zfn ln = false := by simp [zfn, q3]
     have q2 := zcH (p := zfn) hln q1;have q0 : zbl c = false := by simp [zbl, q2]
     have q := zcH (p := zbl) hc q0;simp [zaM, q]
    refine zB<|zX<|E<|zf<|zy Y Y<|zbK Y Y zbQ Y<|zH Y Y<|M ?_;refine ⟨⟨k3 + 1, h102⟩, ⟨rfl, trivial⟩, ?_, ⟨(le90.t le103), st104, ?_, ?_⟩, ?_⟩
    ·exact zbs
    ·first | omega | (simp; omega)
    ·exact zcr hw (by assumption) (by simp_all)
    show ln.length - ((k3 + 1)) < ln.length - k3;omega
   refine zaX<|zt<|zt<|zaK<|zX<|E<|zf<|zy Y Y<|zbK Y Y zbQ Y<|zH Y Y<|M ?_;refine ⟨⟨k2 + 1, h89⟩, ⟨rfl, trivial⟩, ?_, ⟨((le70.t le85).t le90), st91, ?_, ?_⟩, ?_⟩
   ·exact zbs
   ·first | omega | (simp; omega)
   ·exact zcr hl hln (by simp_all [zfn, zde hw zD])
   show c.lines.length - ((k2 + 1)) < c.lines.length - k2;omega
  refine zaX<|zt<|zt<|zaK<|zX<|E<|zf<|zy Y Y<|zbK Y Y zbQ Y<|zH Y Y<|M ?_;have HCH : zbl c = true := by
   have q := zde hl zD;simp_all [zbl]
  have l107 := ((((le15.t le32).t le39).t le47).t le52).t le70;refine ⟨⟨i + 1, h69⟩, ⟨rfl, trivial⟩, ?_, ⟨l107, st71.take 0, ?_, ?_, ?_⟩, ?_⟩
  ·exact zbs
  ·first | omega | (simp; omega)
  ·exact zcr hA hc HCH
  ·exact nodup_take_succ hN hc zD (fun j c2 h1 h2 => hd j c2 zD h2)
  show t.chapters.length - ((i + 1)) < t.chapters.length - i;omega
 refine zaX<|zt<|zt<|zaK<|E<|zm<|zJ Y Y<|M<|zw<|zg zfA ?_;refine ⟨h14, _, rfl, st16.done, ?_⟩;refine zA ?_;have q := zde hA zD;have q2 : t.chapters.take i = t.chapters := List.take_of_length_le zD;rw [q2] at hN;simp_all [zaM]
theorem zhD {h : Heap} {w : World} (hs : Sub h w) {t : Text} {t_v0 : Value} (t_f0 : Sl LChapter h t_v0 t.chapters) : Calls Tryz.prog 17 #[.agg #[t_v0]] w (Rets h w (fun _ _ res_ => res_ = .int .i64 ((if zaM t then 0 else 10)))) := by
 refine zM (n := 6) Tryz.func17 Y Y Y<|have st0:=zcf hs;have t_f0_b:=t_f0.le;zm<|zC st0 (cs := [t_v0]) Y Y Y<|fun b1 w2 h3 le4 hc5 st6=>zH Y Y<|M<|zl<|zm<|zp st6.sub hc5 Y zaw zS Y Y<|zk st6 Y Y Y Tryz.call54 Y (c_postilref01_Text st6.sub (t := t) (t_f0.up le4))<|fun r7 w8 h9 le10 st11 q12=> ?_;subst q12;refine zce Y Y<|M ?_;refine zQ rfl (fun c13 => ?_) (fun c13 => ?_)
 ·refine zm<|zH Y Y<|M<|zw<|zi<|zg Tryz.results17 ?_;refine ⟨h9, _, rfl, st11.done, ?_⟩;refine zaI ?_;simp_all
 refine zB<|E<|zm<|zH Y Y<|M<|zw<|zg Tryz.results17 ?_;refine ⟨h9, _, rfl, st11.done, ?_⟩;refine zaI ?_;simp_all
theorem c_postilref01_line {h : Heap} {w : World} (hs : Sub h w) {t : Text} {t_v0 : Value} (t_f0 : Sl LChapter h t_v0 t.chapters) {p : Place} : Calls Tryz.prog 179 #[.agg #[t_v0], .agg #[.int .i64 p.chapter, .int .i64 p.line, .int .i64 p.word]] w (Rets h w (fun h' _ res_ => ∃ u0, res_ = .tuple #[u0, .bool ((zbg t p).isSome)] ∧ Sl LStr h' u0 ((zbg t p).getD []))) := by
 refine zM (n := 40) Tryz.func179 Y Y Y<|have st0:=zcf hs;have t_f0_b:=t_f0.le;zm<|zC st0 (cs := [t_v0]) Y Y Y<|fun b1 w2 h3 le4 hc5 st6=>zC st6 (cs := [.int .i64 (p.chapter), .int .i64 (p.line), .int .i64 (p.word)]) Y Y Y<|fun b7 w8 h9 le10 hc11 st12=>zcO Y Y<|zJ Y Y<|M<|zl<|zl<|zdE Tryz.mixed zh (Cls h9 _) (Cls.drew st12)<|zaY Y zah Y zL Y Y<|zab Y Y (fun _ hC => (zj (j := 0) hC.sub hc11 Y Y Y zU))<|zaY Y zaJ Y zbh Y Y<|zab Y Y (fun _ hC => (zj (j := 0) hC.sub (hc5.up le10) Y Y Y zbD))<|have l13:=le4.t le10;u_len (t_f0.up l13) Y zao Y<|u_sub Y Y zbQ Y<|zii Y Y (fun _ => zbe Y zht Y) (fun _ hC => Rets.quiet hC (zcu hC.sub _ _ _))<|u_not Y Y<|u_mvB Y Y ?_;refine OpsQ.split (d := 14) rfl (fun g14 => ?_) (fun g14 => ?_)
 ·refine OpsQ.sk 13 Y<|zhH (v := (.bool _)) Y Y Y<|zdU ?_;rintro w15 ⟨h16, s17⟩;have st18 := st12.call0 s17;refine E ?_;refine zQ rfl (fun c19 => ?_) (fun c19 => ?_)
  ·refine zm<|zcO Y Y<|zJ Y Y<|M<|zw<|zi<|zaS Tryz.results179 ?_;refine ⟨h16, _, rfl, st18.done, ?_⟩;refine ⟨_, zdz rfl (zA ?_), Sl.to (Sl.nil _ _) ?_⟩
   all_goals have q := g14
   all_goals simp [inB] at q
   ·have q2 : zbg t p = none := line_none1 zD;simp [q2]
   have q2 : zbg t p = none := line_none1 zD;simp [q2]
  cases c19
 refine zaE Y Y Y<|zaY Y zah Y zL Y Y<|zaE Y Y Y<|zab Y Y (fun _ hC => (zj (j := 1) hC.sub hc11 Y Y Y zU))<|zaE Y Y Y<|zaY Y zaJ Y zbh Y Y<|zaE Y Y Y<|zab Y Y (fun _ hC => (zj (j := 0) hC.sub (hc5.up le10) Y Y Y zbD))<|zaE Y Y Y<|zaY Y zah Y zL Y Y<|zaE Y Y Y<|zab Y Y (fun _ hC => (zj (j := 0) hC.sub hc11 Y Y Y zU))<|zaE Y Y Y ?_;have q1 : 0 ≤ p.chapter ∧ p.chapter < t.chapters.length := by
  have q := g14;simp [inB] at q;omega
 obtain ⟨c, hc⟩ : ∃ y_, (t.chapters)[p.chapter.toNat]? = some y_ := zdl zD;obtain ⟨b20, o21, _, he23, hc22, hr_c⟩ := Sl.elem (t_f0.up l13) hc;obtain ⟨v24, rfl, f25⟩ := hr_c;have f25_b := f25.le;refine zab rfl rfl (fun _ _ => (zaO he23 rfl rfl (hk := (show _ = ((p.chapter.toNat : Nat) : Int) by omega)) (hu := zao) (hz := zaU))) ?_;refine zaE Y Y Y<|zaY Y zav Y zbj Y Y<|zaE Y Y Y<|zab Y Y (fun _ hC => (zj (j := 1) hC.sub hc22 Y Y Y zbJ))<|zaE Y Y Y<|u_len f25 Y zas Y<|zaE Y Y Y<|u_sub Y Y zbQ Y<|zaE Y Y Y<|zii Y Y (fun _ => zbe Y zht Y) (fun _ hC => Rets.quiet hC (zcu hC.sub _ _ _))<|zaE Y Y Y<|u_not Y Y<|u_pickF (v := (.bool _)) Y Y Y<|zdU ?_;rintro w26 ⟨h27, s28⟩;have st29 := st12.call0 s28;refine E ?_;refine zQ rfl (fun c30 => ?_) (fun c30 => ?_)
 ·refine zm<|zcO Y Y<|zJ Y Y<|M<|zw<|zi<|zaS Tryz.results179 ?_;refine ⟨h27, _, rfl, st29.done, ?_⟩;refine ⟨_, zdz rfl (zA ?_), Sl.to (Sl.nil _ _) ?_⟩
  all_goals have q := c30
  all_goals simp [inB] at q
  ·have q2 : zbg t p = none := line_none2 hc zD;simp [q2]
  have q2 : zbg t p = none := line_none2 hc zD;simp [q2]
 refine zB<|E<|zl ?_;have q2 : 0 ≤ p.line ∧ p.line < c.lines.length := by
  have q := c30;simp [inB] at q;omega
 refine zdE Tryz.mixed zh (Cls h27 _) (Cls.drew st29)<|zaY Y zaJ Y zbh Y Y<|zab Y Y (fun _ hC => (zj (j := 0) hC.sub (hc5.up (le10.trans s28.le)) Y Y Y zbD))<|zaY Y zah Y zL Y Y<|zab Y Y (fun _ hC => (zj (j := 0) hC.sub (hc11.up s28.le) Y Y Y zU)) ?_;refine zab rfl rfl (fun _ _ => (zaO he23 rfl rfl (hk := (show _ = ((p.chapter.toNat : Nat) : Int) by omega)) (hu := zao) (hz := zaU))) ?_;refine zaY Y zav Y zbj Y Y<|zab Y Y (fun _ hC => (zj (j := 1) hC.sub (hc22.up s28.le) Y Y Y zbJ))<|zaY Y zah Y zL Y Y<|zab Y Y (fun _ hC => (zj (j := 1) hC.sub (hc11.up s28.le) Y Y Y zU)) ?_;obtain ⟨ln, hln⟩ : ∃ y_, (c.lines)[p.line.toNat]? = some y_ := zdl zD;obtain ⟨b31, o32, _, he34, hc33, hr_ln⟩ := Sl.elem (f25.up s28.le) hln;obtain ⟨v35, rfl, f36⟩ := hr_ln;have f36_b := f36.le;refine zab rfl rfl (fun _ _ => (zaO he34 rfl rfl (hk := (show _ = ((p.line.toNat : Nat) : Int) by omega)) (hu := zas) (hz := zcV))) ?_;refine zab Y Y (fun _ hC => (zj (j := 0) hC.sub hc33 Y Y Y zdh))<|u_assign (v := v35) Y Y<|u_asB Y Y<|zdU ?_;rintro w37 ⟨h38, s39⟩;have st40 := st29.call0 s39;refine E<|zw<|zaS Tryz.results179 ?_;refine ⟨h38, _, rfl, st40.done, ?_⟩;refine ⟨_, zdz rfl (zA ?_), Sl.to (f36.up s39.le) ?_⟩
 ·simp [line_some hc q1.1 hln q2.1]
 simp [line_some hc q1.1 hln q2.1]
theorem c_postilref01_Place {h : Heap} {w : World} (hs : Sub h w) {t : Text} {t_v0 : Value} (t_f0 : Sl LChapter h t_v0 t.chapters) {p : Place} : Calls Tryz.prog 153 #[.agg #[t_v0], .agg #[.int .i64 p.chapter, .int .i64 p.line, .int .i64 p.word]] w (Rets h w (fun _ _ res_ => res_ = .bool (zbH t p))) := by
 refine zM (n := 22) Tryz.func153 Y Y Y<|have st0:=zcf hs;have t_f0_b:=t_f0.le;zm<|zC st0 (cs := [t_v0]) Y Y Y<|fun b1 w2 h3 le4 hc5 st6=>zC st6 (cs := [.int .i64 (p.chapter), .int .i64 (p.line), .int .i64 (p.word)]) Y Y Y<|fun b7 w8 h9 le10 hc11 st12=>zJ Y Y<|M<|zm<|zp st12.sub (hc5.up le10) Y zaw zS Y Y<|zp st12.sub hc11 Y zap zz Y Y<|have l13:=le4.t le10;zk st12 Y Y Y Tryz.call179 Y (c_postilref01_line st12.sub (t := t) (t_f0.up l13) (p := p))<|fun r14 w15 h16 le17 st18 q19=> ?_;obtain ⟨v20, rfl, f21⟩ := q19;have f21_b := f21.le;refine zcD Y Y<|zG (v := v20) Y Y Y<|zG (v := (.bool _)) Y Y Y<|zaj (v := v20) Y Y<|zJ Y Y<|M<|zm<|zag Y Y<|zag Y Y ?_;refine zaL (d := 14) rfl (fun g22 => ?_) (fun g22 => ?_)
 ·refine U Y Y Y<|zc Y zah Y zL Y Y<|U Y Y Y<|zd (j := 2) st18.sub (hc11.up le17) Y Y Y zU Y<|U Y Y Y<|zZ (v := v20) Y Y<|U Y Y Y<|zbr f21 Y zr Y<|U Y Y Y<|v_sub Y Y zbQ Y<|U Y Y Y<|zk st18 Y Y Y zht Y (zcu st18.sub _ _ _)<|fun r23 w24 h25 le26 st27 q28=> ?_;subst q28;refine zak (v := (.bool _)) Y Y Y<|zJ Y Y<|M<|zw<|zg Tryz.results153 ?_;refine ⟨h25, _, rfl, st27.done, ?_⟩;refine zA ?_;simp_all [place_eq]
 refine zP 6 Y<|zT (v := (.bool _)) Y Y Y<|zJ Y Y<|M<|zw<|zg Tryz.results153 ?_;refine ⟨h16, _, rfl, st18.done, ?_⟩;refine zA ?_;simp_all [place_eq]
theorem zjE {h : Heap} {w : World} (hs : Sub h w) {t : Text} {t_v0 : Value} (t_f0 : Sl LChapter h t_v0 t.chapters) {d : Decision} (d_l2 : 0 ≤ d.kind ∧ d.kind ≤ 255) (d_l3 : d.form.length ≤ 281474976710656) (d_l7 : d.to.stem.length ≤ 281474976710656) (d_l8 : 0 ≤ d.to.mark ∧ d.to.mark ≤ 255) : Calls Tryz.prog 100 #[.agg #[t_v0], .agg #[.int .i64 d.number, .int .u8 d.kind, zx d.form, .int .i64 d.at_.chapter, .int .i64 d.at_.line, .int .i64 d.at_.word, zx d.to.stem, .int .u8 d.to.mark, .int .i64 d.of_]] w (Rets h w (fun _ _ res_ => res_ = .bool (zaf t d))) := by
 refine zM (n := 102) Tryz.func100 Y Y Y<|have st0:=zcf hs;have t_f0_b:=t_f0.le;zm<|zC st0 (cs := [t_v0]) Y Y Y<|fun b1 w2 h3 le4 hc5 st6=>zC st6 (cs := [.int .i64 (d.number), .int .u8 (d.kind), zx (d.form), .int .i64 (d.at_.chapter), .int .i64 (d.at_.line), .int .i64 (d.at_.word), zx (d.to.stem), .int .u8 (d.to.mark), .int .i64 (d.of_)]) Y Y Y<|fun b7 w8 h9 le10 hc11 st12=>zJ Y Y<|M<|zl<|zm<|zc Y zo Y zL Y Y<|zd (j := 0) st12.sub hc11 Y Y Y zU Y<|zk st12 Y Y Y Tryz.call152 Y (zdR st12.sub _ _ _)<|fun r13 w14 h15 le16 st17 q18=> ?_;subst q18;refine zce Y Y<|M ?_;refine zQ rfl (fun c19 => ?_) (fun c19 => ?_)
 ·refine zm<|zJ Y Y<|M<|zw<|zi<|zg zbY ?_;refine ⟨h15, _, rfl, st17.done, ?_⟩;refine zA ?_;simp_all [zaf]
 have qn : 1 ≤ d.number ∧ d.number ≤ 999 := by
  have q := c19;simp [inB] at q;omega
 refine zB<|E<|zm<|Z Y Y (zbN (cs := [.int .i64 0, .int .i64 0, .int .i64 0]) zh)<|Z Y Y (zbN (cs := [zx [], .int .u8 0]) zh)<|zp st17.sub (hc5.up (le10.t le16)) Y zaw zS Y Y<|zc Y zo Y zz Y Y<|zaF (j := 3) st17.sub (hc11.up le16) (us := [.int .i64 (d.at_.chapter), .int .i64 (d.at_.line), .int .i64 (d.at_.word)]) Y Y zap zz Y Y Y<|have l20:=(le4.t le10).t le16;zk st17 Y Y Y Tryz.call153 Y (c_postilref01_Place st17.sub (t := t) (t_f0.up l20) (p := d.at_))<|fun r21 w22 h23 le24 st25 q26=> ?_;subst q26;refine zO st25 zdO Y Y<|fun b27 w28 st29=>zO st29 zdv Y Y<|fun b30 w31 st32=>zF st32 (k := 0) Y Y Y (za Y (za Y (za Y zat))) zz Y Y Y<|fun w33 st34=> ?_;obtain ⟨h35, le36, hb37, st39⟩ := st34.freeze (k := 0) rfl;have hc38 := Cells.of hb37;refine zF st39 (k := 1) Y Y Y (za Y (za Y zat)) zai Y Y Y<|fun w40 st41=> ?_;obtain ⟨h42, le43, hb44, st46⟩ := st41.freeze (k := 1) rfl;have hc45 := Cells.of hb44;refine zJ Y Y<|M<|zl<|zm<|zc Y zo Y zbc Y Y<|have l47:=((le16.t le24).t le36).t le43;zd (j := 1) st46.sub (hc11.up l47) Y Y Y zbp Y<|M<|zN<|zm<|zez Y Y Y<|zJ Y Y<|M ?_;refine zV rfl (fun c48 => ?_) (fun c48 => ?_)
 ·refine zm<|zc Y zo Y zY Y Y<|zd (j := 2) st46.sub (hc11.up l47) Y Y Y zau Y<|zk st46 Y Y Y Tryz.call87 Y (zeZ st46.sub _ zbd)<|fun r49 w50 h51 le52 st53 q54=> ?_;subst q54;refine zag Y Y ?_;refine zaL (d := 25) rfl (fun g55 => ?_) (fun g55 => ?_)
  ·refine U Y Y Y<|zc Y zo Y zz Y Y<|U Y Y Y<|zaF (j := 3) st53.sub (hc11.up (l47.t le52)) (us := [.int .i64 (d.at_.chapter), .int .i64 (d.at_.line), .int .i64 (d.at_.word)]) Y Y zap zz Y Y Y<|U Y Y Y<|zp st53.sub (hc38.up (le43.t le52)) Y zap zz Y Y<|U Y Y Y<|Z Y Y (zgy Y Y zfg (Tryz.eq_Place d.at_ zdV))<|zak (v := (.bool _)) Y Y Y<|zag Y Y ?_;refine zaT (d := 31) rfl (fun g56 => ?_) (fun g56 => ?_)
   ·refine U Y Y Y<|zc Y zo Y zai Y Y<|U Y Y Y<|zaF (j := 6) st53.sub (hc11.up (l47.t le52)) (us := [zx (d.to.stem), .int .u8 (d.to.mark)]) Y Y zbC zai Y Y Y<|U Y Y Y<|zk st53 Y Y Y Tryz.call154 Y (zgd st53.sub (hd := d.to) zbd zdt)<|fun r57 w58 h59 le60 st61 q62=> ?_;subst q62;refine zak (v := (.bool _)) Y Y Y<|zag Y Y ?_;refine zaL (d := 36) rfl (fun g63 => ?_) (fun g63 => ?_)
    ·refine U Y Y Y<|zc Y zo Y zL Y Y<|U Y Y Y<|zd (j := 8) st61.sub (hc11.up ((l47.t le52).t le60)) Y Y Y zU Y<|U Y Y Y<|zez Y Y Y<|zak (v := (.bool _)) Y Y Y<|zJ Y Y<|M<|zw<|zI<|zi<|zg zbY ?_;refine ⟨h59, _, rfl, st61.done, ?_⟩;refine zA ?_;simp_all [zaf]
    refine zP 3 Y<|zT (v := (.bool _)) Y Y Y<|zJ Y Y<|M<|zw<|zI<|zi<|zg zbY ?_;refine ⟨h59, _, rfl, st61.done, ?_⟩;refine zA ?_;simp_all [zaf]
   refine zP 3 Y<|zT (v := (.bool _)) Y Y Y<|zag Y Y<|zP 3 Y<|zT (v := (.bool _)) Y Y Y<|zJ Y Y<|M<|zw<|zI<|zi<|zg zbY ?_;refine ⟨h51, _, rfl, st53.done, ?_⟩;refine zA ?_;simp_all [zaf]
  refine zP 4 Y<|zT (v := (.bool _)) Y Y Y<|zag Y Y<|zP 3 Y<|zT (v := (.bool _)) Y Y Y<|zag Y Y<|zP 3 Y<|zT (v := (.bool _)) Y Y Y<|zJ Y Y<|M<|zw<|zI<|zi<|zg zbY ?_;refine ⟨h51, _, rfl, st53.done, ?_⟩;refine zA ?_;simp_all [zaf]
 refine zm<|zez Y Y Y<|zJ Y Y<|M ?_;refine zV rfl (fun c64 => ?_) (fun c64 => ?_)
 ·refine zm<|zc Y zo Y zY Y Y<|zd (j := 2) st46.sub (hc11.up l47) Y Y Y zau Y<|zk st46 Y Y Y Tryz.call87 Y (zeZ st46.sub _ zbd)<|fun r65 w66 h67 le68 st69 q70=> ?_;subst q70;refine zag Y Y ?_;refine zaL (d := 46) rfl (fun g71 => ?_) (fun g71 => ?_)
  ·refine U Y Y Y<|zag Y Y<|zak (v := (.bool _)) Y Y Y<|zag Y Y ?_;refine zaL (d := 49) rfl (fun g72 => ?_) (fun g72 => ?_)
   ·refine U Y Y Y<|zc Y zo Y zai Y Y<|U Y Y Y<|zaF (j := 6) st69.sub (hc11.up (l47.t le68)) (us := [zx (d.to.stem), .int .u8 (d.to.mark)]) Y Y zbC zai Y Y Y<|U Y Y Y<|zk st69 Y Y Y Tryz.call154 Y (zgd st69.sub (hd := d.to) zbd zdt)<|fun r73 w74 h75 le76 st77 q78=> ?_;subst q78;refine zak (v := (.bool _)) Y Y Y<|zag Y Y ?_;refine zaL (d := 54) rfl (fun g79 => ?_) (fun g79 => ?_)
    ·refine U Y Y Y<|zc Y zo Y zL Y Y<|U Y Y Y<|zd (j := 8) st77.sub (hc11.up ((l47.t le68).t le76)) Y Y Y zU Y<|U Y Y Y<|zez Y Y Y<|zak (v := (.bool _)) Y Y Y<|zJ Y Y<|M<|zw<|zI<|zi<|zg zbY ?_;refine ⟨h75, _, rfl, st77.done, ?_⟩;refine zA ?_;simp_all [zaf]
    refine zP 3 Y<|zT (v := (.bool _)) Y Y Y<|zJ Y Y<|M<|zw<|zI<|zi<|zg zbY ?_;refine ⟨h75, _, rfl, st77.done, ?_⟩;refine zA ?_;simp_all [zaf]
   refine zP 3 Y<|zT (v := (.bool _)) Y Y Y<|zag Y Y<|zP 3 Y<|zT (v := (.bool _)) Y Y Y<|zJ Y Y<|M<|zw<|zI<|zi<|zg zbY ?_;refine ⟨h67, _, rfl, st69.done, ?_⟩;refine zA ?_;simp_all [zaf]
  refine zP 1 Y<|zT (v := (.bool _)) Y Y Y<|zag Y Y<|zP 3 Y<|zT (v := (.bool _)) Y Y Y<|zag Y Y<|zP 3 Y<|zT (v := (.bool _)) Y Y Y<|zJ Y Y<|M<|zw<|zI<|zi<|zg zbY ?_;refine ⟨h67, _, rfl, st69.done, ?_⟩;refine zA ?_;simp_all [zaf]
 refine zm<|zez Y Y Y<|zJ Y Y<|M ?_;refine zV rfl (fun c80 => ?_) (fun c80 => ?_)
 ·refine zm<|zc Y zo Y zY Y Y<|zd (j := 2) st46.sub (hc11.up l47) Y Y Y zau Y<|v_seql Y Y Y<|zag Y Y ?_;refine zaT (d := 64) rfl (fun g81 => ?_) (fun g81 => ?_)
  ·refine U Y Y Y<|zag Y Y<|zak (v := (.bool _)) Y Y Y<|zag Y Y ?_;refine zaL (d := 67) rfl (fun g82 => ?_) (fun g82 => ?_)
   ·refine U Y Y Y<|zc Y zo Y zai Y Y<|U Y Y Y<|zaF (j := 6) st46.sub (hc11.up l47) (us := [zx (d.to.stem), .int .u8 (d.to.mark)]) Y Y zbC zai Y Y Y<|U Y Y Y<|zk st46 Y Y Y Tryz.call154 Y (zgd st46.sub (hd := d.to) zbd zdt)<|fun r83 w84 h85 le86 st87 q88=> ?_;subst q88;refine zak (v := (.bool _)) Y Y Y<|zag Y Y ?_;refine zaL (d := 72) rfl (fun g89 => ?_) (fun g89 => ?_)
    ·refine U Y Y Y<|zc Y zo Y zL Y Y<|U Y Y Y<|zd (j := 8) st87.sub (hc11.up (l47.t le86)) Y Y Y zU Y<|U Y Y Y<|zez Y Y Y<|zak (v := (.bool _)) Y Y Y<|zJ Y Y<|M<|zw<|zI<|zi<|zg zbY ?_;refine ⟨h85, _, rfl, st87.done, ?_⟩;refine zA ?_;simp_all [zaf]
    refine zP 3 Y<|zT (v := (.bool _)) Y Y Y<|zJ Y Y<|M<|zw<|zI<|zi<|zg zbY ?_;refine ⟨h85, _, rfl, st87.done, ?_⟩;refine zA ?_;simp_all [zaf]
   refine zP 3 Y<|zT (v := (.bool _)) Y Y Y<|zag Y Y<|zP 3 Y<|zT (v := (.bool _)) Y Y Y<|zJ Y Y<|M<|zw<|zI<|zi<|zg zbY ?_;refine ⟨h42, _, rfl, st46.done, ?_⟩;refine zA ?_;simp_all [zaf]
  refine zP 1 Y<|zT (v := (.bool _)) Y Y Y<|zag Y Y<|zP 3 Y<|zT (v := (.bool _)) Y Y Y<|zag Y Y<|zP 3 Y<|zT (v := (.bool _)) Y Y Y<|zJ Y Y<|M<|zw<|zI<|zi<|zg zbY ?_;refine ⟨h42, _, rfl, st46.done, ?_⟩;refine zA ?_;simp_all [zaf]
 refine zm<|zez Y Y Y<|zJ Y Y<|M ?_;refine zV rfl (fun c90 => ?_) (fun c90 => ?_)
 ·refine zm<|zc Y zo Y zY Y Y<|zd (j := 2) st46.sub (hc11.up l47) Y Y Y zau Y<|v_seql Y Y Y<|zag Y Y ?_;refine zaT (d := 82) rfl (fun g91 => ?_) (fun g91 => ?_)
  ·refine U Y Y Y<|zc Y zo Y zz Y Y<|U Y Y Y<|zaF (j := 3) st46.sub (hc11.up l47) (us := [.int .i64 (d.at_.chapter), .int .i64 (d.at_.line), .int .i64 (d.at_.word)]) Y Y zap zz Y Y Y<|U Y Y Y<|zp st46.sub (hc38.up le43) Y zap zz Y Y<|U Y Y Y<|Z Y Y (zgy Y Y zfg (Tryz.eq_Place d.at_ zdV))<|zak (v := (.bool _)) Y Y Y<|zag Y Y ?_;refine zaT (d := 88) rfl (fun g92 => ?_) (fun g92 => ?_)
   ·refine U Y Y Y<|zc Y zo Y zai Y Y<|U Y Y Y<|zaF (j := 6) st46.sub (hc11.up l47) (us := [zx (d.to.stem), .int .u8 (d.to.mark)]) Y Y zbC zai Y Y Y<|U Y Y Y<|zp st46.sub hc45 Y zbC zai Y Y<|U Y Y Y<|Z Y Y (zgy Y Y zep (Tryz.eq_Head d.to zek))<|zak (v := (.bool _)) Y Y Y<|zag Y Y ?_;refine zaT (d := 94) rfl (fun g93 => ?_) (fun g93 => ?_)
    ·refine U Y Y Y<|zc Y zo Y zL Y Y<|U Y Y Y<|zd (j := 8) st46.sub (hc11.up l47) Y Y Y zU Y<|U Y Y Y<|zc Y zo Y zL Y Y<|U Y Y Y<|zd (j := 0) st46.sub (hc11.up l47) Y Y Y zU Y<|U Y Y Y<|v_sub Y Y zbQ Y<|U Y Y Y<|zk st46 Y Y Y Tryz.call152 Y (zdR st46.sub _ _ _)<|fun r94 w95 h96 le97 st98 q99=> ?_;subst q99;refine zak (v := (.bool _)) Y Y Y<|zJ Y Y<|M<|zw<|zI<|zi<|zg zbY ?_;refine ⟨h96, _, rfl, st98.done, ?_⟩;refine zA ?_;simp_all [zaf]
    refine zP 6 Y<|zT (v := (.bool _)) Y Y Y<|zJ Y Y<|M<|zw<|zI<|zi<|zg zbY ?_;refine ⟨h42, _, rfl, st46.done, ?_⟩;refine zA ?_;simp_all [zaf]
   refine zP 4 Y<|zT (v := (.bool _)) Y Y Y<|zag Y Y<|zP 6 Y<|zT (v := (.bool _)) Y Y Y<|zJ Y Y<|M<|zw<|zI<|zi<|zg zbY ?_;refine ⟨h42, _, rfl, st46.done, ?_⟩;refine zA ?_;simp_all [zaf]
  refine zP 4 Y<|zT (v := (.bool _)) Y Y Y<|zag Y Y<|zP 4 Y<|zT (v := (.bool _)) Y Y Y<|zag Y Y<|zP 6 Y<|zT (v := (.bool _)) Y Y Y<|zJ Y Y<|M<|zw<|zI<|zi<|zg zbY ?_;refine ⟨h42, _, rfl, st46.done, ?_⟩;refine zA ?_;simp_all [zaf]
 refine zB<|zX<|E<|zm<|zJ Y Y<|M<|zw<|zg zbY ?_;refine ⟨h42, _, rfl, st46.done, ?_⟩;refine zA ?_;simp_all [zaf]
theorem c_postilref04_Lexicon {h : Heap} {w : World} (hs : Sub h w) {t : Text} {t_v0 : Value} (t_f0 : Sl LChapter h t_v0 t.chapters) {x : Lexicon} {x_v0 : Value} (x_f0 : Sl LRule h x_v0 x.rules) {x_v1 : Value} (x_f1 : Sl LDecision h x_v1 x.decisions) : Calls Tryz.prog 66 #[.agg #[t_v0], .agg #[x_v0, x_v1]] w (Rets h w (fun _ _ res_ => res_ = .bool (zco t x))) := by
 refine zM (n := 65) Tryz.func66 Y Y Y<|have st0:=zcf hs;have t_f0_b:=t_f0.le;have x_f0_b:=x_f0.le;have x_f1_b:=x_f1.le;zm<|zC st0 (cs := [t_v0]) Y Y Y<|fun b1 w2 h3 le4 hc5 st6=>zC st6 (cs := [x_v0, x_v1]) Y Y Y<|fun b7 w8 h9 le10 hc11 st12=>zJ Y Y<|M<|zl<|zm<|zc Y zay Y zej Y Y<|zd (j := 0) st12.sub hc11 Y Y Y zeK Y<|have l13:=le4.t le10;zbr (x_f0.up l13) Y zbE Y<|zeQ Y Y Y<|zag Y Y ?_;refine zaT (d := 12) rfl (fun g14 => ?_) (fun g14 => ?_)
 ·refine zP 4 Y<|zak (v := (.bool _)) Y Y Y<|M ?_;refine zQ rfl (fun c15 => ?_) (fun c15 => ?_)
  ·refine zm<|zJ Y Y<|M<|zw<|zi<|zg zgq ?_;refine ⟨h9, _, rfl, st12.done, ?_⟩;refine zA ?_;have q := g14;simp [zco]
   intros
   omega
  cases c15
 refine U Y Y Y<|zc Y zay Y zbv Y Y<|U Y Y Y<|zd (j := 1) st12.sub hc11 Y Y Y zcP Y<|U Y Y Y<|zbr (x_f1.up l13) Y zac Y<|U Y Y Y<|zeQ Y Y Y<|zT (v := (.bool _)) Y Y Y<|M ?_;refine zV rfl (fun c16 => ?_) (fun c16 => ?_)
 ·refine zm<|zJ Y Y<|M<|zw<|zi<|zg zgq ?_;refine ⟨h9, _, rfl, st12.done, ?_⟩;refine zA ?_;have q := c16;simp [zco]
  intros
  omega
 refine zB<|E<|zl<|zm<|zH Y Y<|M<|zN ?_;refine zaR ([4, 5] ++ zdA 18 14) (G := Nat × Heap) (fun ⟨i, h17⟩ => [(5, .int .i64 (i : Int))]) (fun ⟨i, h17⟩ w' => Le h9 h17 ∧ St h w h17 w' [] ∧ (i ≤ x.rules.length) ∧ ((x.rules.take i).all zhl = true)) (fun ⟨i, h17⟩ => x.rules.length - i) ⟨0, h9⟩ ⟨rfl, trivial⟩ ⟨Le.refl _, st12, zbP, zbP⟩ ?_;rintro ⟨i, h17⟩ _ w20 ⟨le18, st19, hi, hR⟩;refine zl<|zm<|zy Y Y<|zc Y zay Y zej Y Y<|zd (j := 0) st19.sub (hc11.up le18) Y Y Y zeK Y<|have l21:=l13.t le18;zbr (x_f0.up l21) Y zbE Y<|zbV Y Y Y<|M ?_;refine zV rfl (fun c22 => ?_) (fun c22 => ?_)
 ·refine zB<|E<|zl<|zN<|zm<|zc Y zay Y zej Y Y<|zd (j := 0) st19.sub (hc11.up le18) Y Y Y zeK Y<|zy Y Y ?_;obtain ⟨r, hr⟩ : ∃ y_, (x.rules)[i]? = some y_ := zdl zD;obtain ⟨b23, o24, _, he26, hc25, hr_r⟩ := Sl.elem (x_f0.up l21) hr;obtain ⟨rfl, ls27, ls28⟩ := hr_r;simp only [big] at ls27;simp only [big] at ls28;refine zaH he26 Y Y (hk := Y) (hu := zbE) (hz := zdT) Y<|zp st19.sub hc25 Y Tryz.isAgg121 zdT Y Y<|zk st19 Y Y Y Tryz.call99 Y (c_postilref04_Rule st19.sub (r := r) zbd zbd)<|fun r29 w30 h31 le32 st33 q34=> ?_;subst q34;refine zce Y Y<|M ?_;refine zQ rfl (fun c35 => ?_) (fun c35 => ?_)
  ·refine zm<|zJ Y Y<|M<|zw<|zI<|zi<|zi<|zI<|zi<|zg zgq ?_;refine ⟨h31, _, rfl, st33.done, ?_⟩;refine zA ?_;have q := zcH (p := zhl) hr (by simpa using c35);simp [zco, q]
  refine zB<|zX<|E<|zf<|zy Y Y<|zbK Y Y zbQ Y<|zH Y Y<|M ?_;refine ⟨⟨i + 1, h31⟩, ⟨rfl, trivial⟩, ?_, ⟨(le18.t le32), st33, ?_, ?_⟩, ?_⟩
  ·exact zbs
  ·first | omega | (simp; omega)
  ·exact zcr hR hr (by simpa using c35)
  show x.rules.length - ((i + 1)) < x.rules.length - i;omega
 refine zaX<|zt<|zt<|zaK<|E<|zl<|zm<|zH Y Y<|M<|zN ?_;refine zaR ([4, 6, 7] ++ zdA 32 33) (G := Nat × Heap) (fun ⟨i, h36⟩ => [(6, .int .i64 (i : Int))]) (fun ⟨i, h36⟩ w' => Le h17 h36 ∧ St h w h36 w' [] ∧ (i ≤ x.decisions.length) ∧ ((x.decisions.take i).all (zaf t) = true) ∧ (((x.decisions.take i).map (·.number)).Nodup)) (fun ⟨i, h36⟩ => x.decisions.length - i) ⟨0, h17⟩ ⟨rfl, trivial⟩ ⟨Le.refl _, st19, zbP, zbP, zbP⟩ ?_;rintro ⟨i, h36⟩ _ w39 ⟨le37, st38, hi, hD, hN⟩;refine zl<|zm<|zy Y Y<|zc Y zay Y zbv Y Y<|zd (j := 1) st38.sub (hc11.up (le18.t le37)) Y Y Y zcP Y<|have l40:=l21.t le37;zbr (x_f1.up l40) Y zac Y<|zbV Y Y Y<|M ?_;refine zV rfl (fun c41 => ?_) (fun c41 => ?_)
 ·refine zB<|E<|zl<|zN<|zl<|zl<|zdE Tryz.mixed zh (Cls h36 _) (Cls.drew st38)<|zab Y Y (fun _ hC => (zW hC.sub (hc5.up ((le10.t le18).t le37)) Y zaw zS Y))<|zaY Y zay Y zbv Y Y<|zab Y Y (fun _ hC => (zj (j := 1) hC.sub (hc11.up (le18.t le37)) Y Y Y zcP))<|zfM Y Y ?_;obtain ⟨d, hd⟩ : ∃ y_, (x.decisions)[i]? = some y_ := zdl zD;obtain ⟨b42, o43, _, he45, hc44, hr_d⟩ := Sl.elem (x_f1.up l40) hd;obtain ⟨rfl, lu46, ls47, ls48, lu49⟩ := hr_d;simp only [big] at ls47;simp only [big] at ls48;refine zdy he45 Y Y (hk := Y) (hu := zac) (hz := zK) Y<|zab Y Y (fun _ hC => (zW hC.sub hc44 Y zaP zK Y))<|zii Y Y (fun _ => zbe Y Tryz.call100 Y) (fun _ hC => Rets.quiet hC (zjE hC.sub (t := t) (t_f0.up l40) (d := d) zdt zbd zbd zdt))<|u_not Y Y<|zdU ?_;rintro w50 ⟨h51, s52⟩;have st53 := st38.call0 s52;refine E ?_;refine zQ rfl (fun c54 => ?_) (fun c54 => ?_)
  ·refine zm<|zJ Y Y<|M<|zw<|zi<|zI<|zi<|zi<|zI<|zi<|zg zgq ?_;refine ⟨h51, _, rfl, st53.done, ?_⟩;refine zA ?_;have q := zcH (p := zaf t) hd (by simpa using c54);simp [zco, q]
  refine zB<|E<|zm<|zH Y Y<|M<|zN ?_;refine zaR ([4, 7] ++ zdA 47 18) (G := Nat × Heap) (fun ⟨k, h55⟩ => [(7, .int .i64 (k : Int))]) (fun ⟨k, h55⟩ w' => Le h51 h55 ∧ St h w h55 w' [] ∧ (k ≤ i) ∧ (∀ j c2, j < k → x.decisions[j]? = some c2 → c2.number ≠ d.number)) (fun ⟨k, h55⟩ => i - k) ⟨0, h51⟩ ⟨rfl, trivial⟩ ⟨Le.refl _, st53, zbP, (by intro j _ hj; omega)⟩ ?_;rintro ⟨k, h55⟩ _ w58 ⟨le56, st57, hk, hq⟩;refine zl<|zm<|zy Y Y<|zy Y Y<|zbV Y Y Y<|M ?_;refine zV rfl (fun c59 => ?_) (fun c59 => ?_)
  ·refine zB<|E<|zl<|zN<|zl<|zdE Tryz.mixed zh (Cls h55 _) (Cls.drew st57)<|zaY Y zay Y zbv Y Y<|have l60:=((le18.t le37).trans s52.le).t le56;zab Y Y (fun _ hC => (zj (j := 1) hC.sub (hc11.up l60) Y Y Y zcP))<|zfM Y Y ?_;obtain ⟨e, he⟩ : ∃ y_, (x.decisions)[k]? = some y_ := zdl zD;have l65 := (l40.trans s52.le).t le56;obtain ⟨b61, o62, _, he64, hc63, hr_e⟩ := Sl.elem (x_f1.up l65) he;obtain ⟨rfl, lu66, ls67, ls68, lu69⟩ := hr_e;simp only [big] at ls67;simp only [big] at ls68;refine zdy he64 Y Y (hk := Y) (hu := zac) (hz := zK) Y<|zaY Y zo Y zL Y Y<|zab Y Y (fun _ hC => (zj (j := 0) hC.sub hc63 Y Y Y zU))<|zaY Y zay Y zbv Y Y<|zab Y Y (fun _ hC => (zj (j := 1) hC.sub (hc11.up l60) Y Y Y zcP))<|zfM Y Y<|zdy he45 Y Y (hk := Y) (hu := zac) (hz := zK) Y<|zaY Y zo Y zL Y Y<|zab Y Y (fun _ hC => (zj (j := 0) hC.sub (hc44.up (s52.le.t le56)) Y Y Y zU))<|u_eql Y Y Y<|zdU ?_;rintro w70 ⟨h71, s72⟩;have st73 := st57.call0 s72;refine E ?_;refine zV rfl (fun c74 => ?_) (fun c74 => ?_)
   ·refine zm<|zJ Y Y<|M<|zw<|zI<|zi<|zi<|zI<|zI<|zi<|zi<|zI<|zi<|zg zgq ?_;refine ⟨h71, _, rfl, st73.done, ?_⟩;refine zA ?_;have q := zja (f := (·.number)) he hd zD (by assumption);simp [zco, q]
   refine zB<|zX<|E<|zf<|zy Y Y<|zbK Y Y zbQ Y<|zH Y Y<|M ?_;refine ⟨⟨k + 1, h71⟩, ⟨rfl, trivial⟩, ?_, ⟨(le56.trans s72.le), st73, ?_, ?_⟩, ?_⟩
   ·exact zbs
   ·first | omega | (simp; omega)
   ·intro j c2 h1 h2
    rcases Nat.lt_or_ge j k with h3 | h3
    ·exact hq j c2 h3 h2
    ·obtain rfl : j = k := by omega
     rw [h2] at he; cases he; assumption
   show i - ((k + 1)) < i - k;omega
  refine zaX<|zt<|zt<|zaK<|zX<|E<|zf<|zy Y Y<|zbK Y Y zbQ Y<|zH Y Y<|M ?_;have HD : zaf t d = true := by simpa using c54
  refine ⟨⟨i + 1, h55⟩, ⟨rfl, trivial⟩, ?_, ⟨((le37.trans s52.le).t le56), st57, ?_, ?_, ?_⟩, ?_⟩
  ·exact zbs
  ·first | omega | (simp; omega)
  ·exact zcr hD hd HD
  ·exact nodup_take_succ hN hd zD (fun j c2 h1 h2 => hq j c2 zD h2)
  show x.decisions.length - ((i + 1)) < x.decisions.length - i;omega
 refine zaX<|zt<|zt<|zaK<|E<|zm<|zJ Y Y<|M<|zw<|zg zgq ?_;refine ⟨h36, _, rfl, st38.done, ?_⟩;refine zA ?_;have q1 := zde hR zD;have q2 := zde hD zD;have q3 : x.decisions.take i = x.decisions := List.take_of_length_le zD;rw [q3] at hN;simp [zco, q1, q2, hN];omega
theorem c_postilref04_Check {h : Heap} {w : World} (hs : Sub h w) {t : Text} {t_v0 : Value} (t_f0 : Sl LChapter h t_v0 t.chapters) {x : Lexicon} {x_v0 : Value} (x_f0 : Sl LRule h x_v0 x.rules) {x_v1 : Value} (x_f1 : Sl LDecision h x_v1 x.decisions) : Calls Tryz.prog 35 #[.agg #[t_v0], .agg #[x_v0, x_v1]] w (Rets h w (fun _ _ res_ => res_ = .int .i64 (zan t x))) := by
 refine zM (n := 15) Tryz.func35 Y Y Y<|have st0:=zcf hs;have t_f0_b:=t_f0.le;have x_f0_b:=x_f0.le;have x_f1_b:=x_f1.le;zm<|zC st0 (cs := [t_v0]) Y Y Y<|fun b1 w2 h3 le4 hc5 st6=>zC st6 (cs := [x_v0, x_v1]) Y Y Y<|fun b7 w8 h9 le10 hc11 st12=>zH Y Y<|M<|zl<|zm<|zp st12.sub (hc5.up le10) Y zaw zS Y Y<|have l13:=le4.t le10;zk st12 Y Y Y Tryz.call17 Y (zhD st12.sub (t := t) (t_f0.up l13))<|fun r14 w15 h16 le17 st18 q19=> ?_;subst q19;refine zH Y Y<|M<|zm<|zy Y Y<|zdo Y Y Y<|M ?_;refine zV rfl (fun c20 => ?_) (fun c20 => ?_)
 ·refine zm<|zy Y Y<|zH Y Y<|M<|zw<|zi<|zg Tryz.results35 ?_;refine ⟨h16, _, rfl, st18.done, ?_⟩;refine zaI ?_;simp_all [zan]
 refine zB<|E<|zl<|zm<|zp st18.sub (hc5.up (le10.t le17)) Y zaw zS Y Y<|zp st18.sub (hc11.up le17) Y zbb zaC Y Y<|have l21:=l13.t le17;zk st18 Y Y Y Tryz.call66 Y (c_postilref04_Lexicon st18.sub (t := t) (t_f0.up l21) (x := x) (x_f0.up l21) (x_f1.up l21))<|fun r22 w23 h24 le25 st26 q27=> ?_;subst q27;refine zce Y Y<|M ?_;refine zQ rfl (fun c28 => ?_) (fun c28 => ?_)
 ·refine zm<|zH Y Y<|M<|zw<|zi<|zg Tryz.results35 ?_;refine ⟨h24, _, rfl, st26.done, ?_⟩;refine zaI ?_;simp_all [zan]
 refine zB<|E<|zm<|zH Y Y<|M<|zw<|zg Tryz.results35 ?_;refine ⟨h24, _, rfl, st26.done, ?_⟩;refine zaI ?_;simp_all [zan]
end Go.Pk

namespace Go.Pk
open Go Go.RowKit Go.Proofs
end Go.Pk

namespace Go.Pk
open Go Go.RowKit Go.Proofs
theorem zgC {xs : List Int} {v : Value} {g : FuncId} {caps : List Value} (S : Nat → Heap → World → Prop) (p : Nat → Bool)
  (hS : ∀ k h w, S k h w → Sub h w ∧ Sl LU8 h v xs)
  (hf : ∀ k x h w vs, S k h w → xs[k]? = some x → LU8.R h vs x → ∀ u, vs = [u] → Calls Tryz.prog g (u :: caps).toArray w (fun e w' => ∃ h', e = .returned (.bool (p k)) ∧ S (k + 1) h' w'))
  (hg : ∀ a w, (callFunc g a).run Tryz.prog w = .ok (.enter g a) w) {h : Heap} {w : World} (h0 : S 0 h w) :
  Calls Tryz.prog 120 #[v, .func (.func g) #[] caps.toArray] w (fun e w' => ∃ h' k, e = .returned (.int .i64 (if k < xs.length then (k : Int) else -1)) ∧ k ≤ xs.length ∧ (∀ j, j < k → p j = false) ∧ (k < xs.length → p k = true) ∧ S (if k < xs.length then k + 1 else k) h' w') := by
 refine zM (n := 19) Tryz.func120 Y Y Y<|have hb:=(hS 0 h w h0).2.le;zm<|zH Y Y<|M<|zl<|zm<|zZ (v := v) Y Y<|zbr (hS 0 h w h0).2 Y Tryz.underlying147 Y<|zy Y Y<|M<|zN ?_;refine zaR ([4, 5] ++ zdA 8 11) (G := Nat × Heap) (fun ⟨k, _⟩ => [(8, .int .i64 (k : Int))]) (fun ⟨k, h'⟩ w' => S k h' w' ∧ k ≤ xs.length ∧ ∀ j, j < k → p j = false) (fun ⟨k, _⟩ => xs.length - k) ⟨0, h⟩ ⟨rfl, trivial⟩ ⟨h0, by omega, by intros; omega⟩ ?_;rintro ⟨k, h1⟩ _ w1 ⟨hS1, hk, hp⟩;obtain ⟨hsub, hsl⟩ := hS k h1 w1 hS1;refine zm<|zbV Y Y Y<|M<|zl ?_;refine zQ rfl (fun c1 => ?_) (fun c1 => ?_)
 ·replace c1 := ziH c1;refine zB<|E<|zl<|zN<|zm<|zy Y Y<|zH Y Y<|M<|zm<|zhA Y Y<|zZ (v := v) Y Y<|zy Y Y ?_;have hy : ∃ y, xs[k]? = some y := ⟨_, List.getElem?_eq_getElem zD⟩;obtain ⟨y, hy⟩ := hy;obtain ⟨b, o, vs, he, hc, hr⟩ := Sl.elem hsl hy;refine zaH he Y Y (hk := Y) (hu := Tryz.underlying147) (hz := zbc) Y ?_;obtain ⟨u, rfl⟩ : ∃ u, vs = [u] := by
   have q := LU8.len hr
   match vs, q with
   | [u], _ => exact ⟨u, rfl⟩
  refine zd (j := 0) hsub hc Y Y Y zbp Y ?_;refine zaA rfl rfl (zbW (fs := []) (cs := caps) rfl rfl hg rfl) ((hf k y h1 w1 _ hS1 hy hr _ rfl).mono ?_);rintro e w2 ⟨h2, rfl, hS2⟩;refine ⟨_, rfl, ?_⟩;refine M ?_;refine zQ rfl (fun c2 => ?_) (fun c2 => ?_)
  ·refine zl ?_;refine zf<|zy Y Y<|zH Y Y<|M<|zw ?_
   repeat (first | refine zI ?_ | refine zi ?_)
   refine zg Tryz.results120 ?_;have hlt : k < xs.length := by omega
   exact ⟨h2, k, by rw [if_pos hlt]; rfl, hk, hp, fun _ => c2, by rw [if_pos hlt]; exact hS2⟩
  ·refine zB ?_;refine zX<|E<|zf ?_;refine Z rfl rfl (zdK rfl rfl zD) ?_;refine zy Y Y<|M ?_;refine ⟨⟨k + 1, h2⟩, ⟨rfl, trivial⟩, ?_, ⟨hS2, by omega, ?_⟩, ?_⟩
   ·exact zbs
   ·intro j hj
    rcases Nat.lt_or_ge j k with h3 | h3
    ·exact hp j h3
    ·obtain rfl : j = k := by omega
     exact c2
   ·show xs.length - (k + 1) < xs.length - k;omega
 ·replace c1 := t_of c1;refine zaX<|zt<|zt<|zaK<|E<|zm<|zH Y Y<|M<|zw<|zg Tryz.results120 ?_;have hlt : ¬ k < xs.length := by omega
  exact ⟨h1, k, by rw [if_neg hlt]; rfl, hk, hp, fun q => absurd q hlt, by rw [if_neg hlt]; exact hS1⟩

theorem zfU {xs : List Int} {v : Value} {g : FuncId} {caps : List Value} (S : Nat → Heap → World → Prop) (p : Nat → Bool)
  (hS : ∀ k h w, S k h w → Sub h w ∧ Sl LU8 h v xs)
  (hf : ∀ k x h w vs, S k h w → xs[k]? = some x → LU8.R h vs x → ∀ u, vs = [u] → Calls Tryz.prog g (u :: caps).toArray w (fun e w' => ∃ h', e = .returned (.bool (p k)) ∧ S (k + 1) h' w'))
  (hg : ∀ a w, (callFunc g a).run Tryz.prog w = .ok (.enter g a) w) {h : Heap} {w : World} (h0 : S 0 h w) :
  Calls Tryz.prog 75 #[v, .func (.func g) #[] caps.toArray] w (fun e w' => ∃ h' k, e = .returned (.bool (decide (k < xs.length))) ∧ k ≤ xs.length ∧ (∀ j, j < k → p j = false) ∧ (k < xs.length → p k = true) ∧ S (if k < xs.length then k + 1 else k) h' w') := by
 refine zM (n := 9) Tryz.func75 Y Y Y<|zm<|zJ Y Y<|M<|zm<|zZ (v := v) Y Y<|zhA Y Y ?_;refine zaA rfl rfl (zbe rfl Tryz.call120 rfl) ((zgC S p hS hf hg h0).mono ?_);rintro e w2 ⟨h2, k, rfl, q1, q2, q3, q4⟩;refine ⟨_, rfl, ?_⟩;refine v_geq Y Y Y<|zJ Y Y<|M<|zw<|zg Tryz.results75 ?_;refine ⟨h2, k, congrArg Ending.returned (zA ?_), q1, q2, q3, q4⟩
 by_cases hlt : k < xs.length
 ·simp [hlt]
 ·simp [hlt]
theorem zgD {xs : List Int} {v : Value} {g : FuncId} {caps : List Value} {h : Heap} {w : World} (hs : Sub h w) (hx : Sl LU8 h v xs) (q : Int → Bool)
  (hg : ∀ a w, (callFunc g a).run Tryz.prog w = .ok (.enter g a) w)
  (hf : ∀ x h' w' vs, Le h h' → Sub h' w' → x ∈ xs → LU8.R h' vs x → ∀ u, vs = [u] → Calls Tryz.prog g (u :: caps).toArray w' (Rets h' w' fun _ _ r => r = .bool (q x))) :
  Calls Tryz.prog 75 #[v, .func (.func g) #[] caps.toArray] w (Rets h w fun _ _ r => r = .bool (xs.any q)) := by
 refine (zfU (fun k h' w' => St h w h' w' [] ∧ k ≤ xs.length) (fun k => ((xs[k]?).map q).getD false) (fun k h' w' hk => ⟨hk.1.sub, hx.up hk.1.le⟩) ?_ hg ⟨St.start hs, Nat.zero_le _⟩).mono ?_
 ·rintro k x h' w' vs ⟨st, _⟩ hk hr u hu;refine (hf x h' w' vs st.le st.sub (List.mem_of_getElem? hk) hr u hu).mono ?_;rintro e w'' ⟨h'', r, rfl, s, rfl⟩;obtain ⟨hlt, _⟩ := List.getElem?_eq_some_iff.1 hk;exact ⟨h'', by simp [hk], st.call0 s, hlt⟩
 ·rintro e w' ⟨h', k, rfl, q1, q2, q3, q4⟩;refine ⟨h', _, rfl, q4.1, zA ?_⟩
  by_cases hlt : k < xs.length
  ·have h3 := q3 hlt;rw [List.getElem?_eq_getElem hlt] at h3;simp only [Option.map_some, Option.getD_some] at h3;have : xs.any q = true := List.any_eq_true.2 ⟨_, List.getElem_mem hlt, h3⟩;simp [hlt, this]
  ·have : xs.any q = false := by
    rw [List.any_eq_false];intro x hx';obtain ⟨j, hj⟩ := List.mem_iff_getElem?.1 hx';obtain ⟨h5, _⟩ := List.getElem?_eq_some_iff.1 hj;have := q2 j zD;simpa [hj] using this
   simp [hlt, this]

theorem zdZ {xs : List Str} {v : Value} {g : FuncId} {caps : List Value} (S : Nat → Heap → World → Prop) (p : Nat → Bool)
  (hS : ∀ k h w, S k h w → Sub h w ∧ Sl LStr h v xs)
  (hf : ∀ k x h w vs, S k h w → xs[k]? = some x → LStr.R h vs x → ∀ u, vs = [u] → Calls Tryz.prog g (u :: caps).toArray w (fun e w' => ∃ h', e = .returned (.bool (p k)) ∧ S (k + 1) h' w'))
  (hg : ∀ a w, (callFunc g a).run Tryz.prog w = .ok (.enter g a) w) {h : Heap} {w : World} (h0 : S 0 h w) :
  Calls Tryz.prog 128 #[v, .func (.func g) #[] caps.toArray] w (fun e w' => ∃ h' k, e = .returned (.int .i64 (if k < xs.length then (k : Int) else -1)) ∧ k ≤ xs.length ∧ (∀ j, j < k → p j = false) ∧ (k < xs.length → p k = true) ∧ S (if k < xs.length then k + 1 else k) h' w') := by
 refine zM (n := 19) Tryz.func128 Y Y Y<|have hb:=(hS 0 h w h0).2.le;zm<|zH Y Y<|M<|zl<|zm<|zZ (v := v) Y Y<|zbr (hS 0 h w h0).2 Y zr Y<|zy Y Y<|M<|zN ?_;refine zaR ([4, 5] ++ zdA 8 11) (G := Nat × Heap) (fun ⟨k, _⟩ => [(8, .int .i64 (k : Int))]) (fun ⟨k, h'⟩ w' => S k h' w' ∧ k ≤ xs.length ∧ ∀ j, j < k → p j = false) (fun ⟨k, _⟩ => xs.length - k) ⟨0, h⟩ ⟨rfl, trivial⟩ ⟨h0, by omega, by intros; omega⟩ ?_;rintro ⟨k, h1⟩ _ w1 ⟨hS1, hk, hp⟩;obtain ⟨hsub, hsl⟩ := hS k h1 w1 hS1;refine zm<|zbV Y Y Y<|M<|zl ?_;refine zQ rfl (fun c1 => ?_) (fun c1 => ?_)
 ·replace c1 := ziH c1;refine zB<|E<|zl<|zN<|zm<|zy Y Y<|zH Y Y<|M<|zm<|zhA Y Y<|zZ (v := v) Y Y<|zy Y Y ?_;have hy : ∃ y, xs[k]? = some y := ⟨_, List.getElem?_eq_getElem zD⟩;obtain ⟨y, hy⟩ := hy;obtain ⟨b, o, vs, he, hc, hr⟩ := Sl.elem hsl hy;refine zaH he Y Y (hk := Y) (hu := zr) (hz := zY) Y ?_;obtain ⟨u, rfl⟩ : ∃ u, vs = [u] := by
   have q := LStr.len hr
   match vs, q with
   | [u], _ => exact ⟨u, rfl⟩
  refine zd (j := 0) hsub hc Y Y Y zau Y ?_;refine zaA rfl rfl (zbW (fs := []) (cs := caps) rfl rfl hg rfl) ((hf k y h1 w1 _ hS1 hy hr _ rfl).mono ?_);rintro e w2 ⟨h2, rfl, hS2⟩;refine ⟨_, rfl, ?_⟩;refine M ?_;refine zQ rfl (fun c2 => ?_) (fun c2 => ?_)
  ·refine zl ?_;refine zf<|zy Y Y<|zH Y Y<|M<|zw ?_
   repeat (first | refine zI ?_ | refine zi ?_)
   refine zg Tryz.results128 ?_;have hlt : k < xs.length := by omega
   exact ⟨h2, k, by rw [if_pos hlt]; rfl, hk, hp, fun _ => c2, by rw [if_pos hlt]; exact hS2⟩
  ·refine zB ?_;refine zX<|E<|zf ?_;refine Z rfl rfl (zdK rfl rfl zD) ?_;refine zy Y Y<|M ?_;refine ⟨⟨k + 1, h2⟩, ⟨rfl, trivial⟩, ?_, ⟨hS2, by omega, ?_⟩, ?_⟩
   ·exact zbs
   ·intro j hj
    rcases Nat.lt_or_ge j k with h3 | h3
    ·exact hp j h3
    ·obtain rfl : j = k := by omega
     exact c2
   ·show xs.length - (k + 1) < xs.length - k;omega
 ·replace c1 := t_of c1;refine zaX<|zt<|zt<|zaK<|E<|zm<|zH Y Y<|M<|zw<|zg Tryz.results128 ?_;have hlt : ¬ k < xs.length := by omega
  exact ⟨h1, k, by rw [if_neg hlt]; rfl, hk, hp, fun q => absurd q hlt, by rw [if_neg hlt]; exact hS1⟩

theorem zfr {xs : List Str} {v : Value} {g : FuncId} {caps : List Value} (S : Nat → Heap → World → Prop) (p : Nat → Bool)
  (hS : ∀ k h w, S k h w → Sub h w ∧ Sl LStr h v xs)
  (hf : ∀ k x h w vs, S k h w → xs[k]? = some x → LStr.R h vs x → ∀ u, vs = [u] → Calls Tryz.prog g (u :: caps).toArray w (fun e w' => ∃ h', e = .returned (.bool (p k)) ∧ S (k + 1) h' w'))
  (hg : ∀ a w, (callFunc g a).run Tryz.prog w = .ok (.enter g a) w) {h : Heap} {w : World} (h0 : S 0 h w) :
  Calls Tryz.prog 114 #[v, .func (.func g) #[] caps.toArray] w (fun e w' => ∃ h' k, e = .returned (.bool (decide (k < xs.length))) ∧ k ≤ xs.length ∧ (∀ j, j < k → p j = false) ∧ (k < xs.length → p k = true) ∧ S (if k < xs.length then k + 1 else k) h' w') := by
 refine zM (n := 9) Tryz.func114 Y Y Y<|zm<|zJ Y Y<|M<|zm<|zZ (v := v) Y Y<|zhA Y Y ?_;refine zaA rfl rfl (zbe rfl Tryz.call128 rfl) ((zdZ S p hS hf hg h0).mono ?_);rintro e w2 ⟨h2, k, rfl, q1, q2, q3, q4⟩;refine ⟨_, rfl, ?_⟩;refine v_geq Y Y Y<|zJ Y Y<|M<|zw<|zg Tryz.results114 ?_;refine ⟨h2, k, congrArg Ending.returned (zA ?_), q1, q2, q3, q4⟩
 by_cases hlt : k < xs.length
 ·simp [hlt]
 ·simp [hlt]
theorem zfQ {xs : List Str} {v : Value} {g : FuncId} {caps : List Value} {h : Heap} {w : World} (hs : Sub h w) (hx : Sl LStr h v xs) (q : Str → Bool)
  (hg : ∀ a w, (callFunc g a).run Tryz.prog w = .ok (.enter g a) w)
  (hf : ∀ x h' w' vs, Le h h' → Sub h' w' → x ∈ xs → LStr.R h' vs x → ∀ u, vs = [u] → Calls Tryz.prog g (u :: caps).toArray w' (Rets h' w' fun _ _ r => r = .bool (q x))) :
  Calls Tryz.prog 114 #[v, .func (.func g) #[] caps.toArray] w (Rets h w fun _ _ r => r = .bool (xs.any q)) := by
 refine (zfr (fun k h' w' => St h w h' w' [] ∧ k ≤ xs.length) (fun k => ((xs[k]?).map q).getD false) (fun k h' w' hk => ⟨hk.1.sub, hx.up hk.1.le⟩) ?_ hg ⟨St.start hs, Nat.zero_le _⟩).mono ?_
 ·rintro k x h' w' vs ⟨st, _⟩ hk hr u hu;refine (hf x h' w' vs st.le st.sub (List.mem_of_getElem? hk) hr u hu).mono ?_;rintro e w'' ⟨h'', r, rfl, s, rfl⟩;obtain ⟨hlt, _⟩ := List.getElem?_eq_some_iff.1 hk;exact ⟨h'', by simp [hk], st.call0 s, hlt⟩
 ·rintro e w' ⟨h', k, rfl, q1, q2, q3, q4⟩;refine ⟨h', _, rfl, q4.1, zA ?_⟩
  by_cases hlt : k < xs.length
  ·have h3 := q3 hlt;rw [List.getElem?_eq_getElem hlt] at h3;simp only [Option.map_some, Option.getD_some] at h3;have : xs.any q = true := List.any_eq_true.2 ⟨_, List.getElem_mem hlt, h3⟩;simp [hlt, this]
  ·have : xs.any q = false := by
    rw [List.any_eq_false];intro x hx';obtain ⟨j, hj⟩ := List.mem_iff_getElem?.1 hx';obtain ⟨h5, _⟩ := List.getElem?_eq_some_iff.1 hj;have := q2 j zD;simpa [hj] using this
   simp [hlt, this]

theorem zhb {xs : List Int} {v : Value} {g : FuncId} {caps : List Value} (S : Nat → Heap → World → Prop) (p : Nat → Bool)
  (hS : ∀ k h w, S k h w → Sub h w ∧ Sl LInt h v xs)
  (hf : ∀ k x h w vs, S k h w → xs[k]? = some x → LInt.R h vs x → ∀ u, vs = [u] → Calls Tryz.prog g (u :: caps).toArray w (fun e w' => ∃ h', e = .returned (.bool (p k)) ∧ S (k + 1) h' w'))
  (hg : ∀ a w, (callFunc g a).run Tryz.prog w = .ok (.enter g a) w) {h : Heap} {w : World} (h0 : S 0 h w) :
  Calls Tryz.prog 164 #[v, .func (.func g) #[] caps.toArray] w (fun e w' => ∃ h' k, e = .returned (.int .i64 (if k < xs.length then (k : Int) else -1)) ∧ k ≤ xs.length ∧ (∀ j, j < k → p j = false) ∧ (k < xs.length → p k = true) ∧ S (if k < xs.length then k + 1 else k) h' w') := by
 refine zM (n := 19) Tryz.func164 Y Y Y<|have hb:=(hS 0 h w h0).2.le;zm<|zH Y Y<|M<|zl<|zm<|zZ (v := v) Y Y<|zbr (hS 0 h w h0).2 Y zaa Y<|zy Y Y<|M<|zN ?_;refine zaR ([4, 5] ++ zdA 8 11) (G := Nat × Heap) (fun ⟨k, _⟩ => [(8, .int .i64 (k : Int))]) (fun ⟨k, h'⟩ w' => S k h' w' ∧ k ≤ xs.length ∧ ∀ j, j < k → p j = false) (fun ⟨k, _⟩ => xs.length - k) ⟨0, h⟩ ⟨rfl, trivial⟩ ⟨h0, by omega, by intros; omega⟩ ?_;rintro ⟨k, h1⟩ _ w1 ⟨hS1, hk, hp⟩;obtain ⟨hsub, hsl⟩ := hS k h1 w1 hS1;refine zm<|zbV Y Y Y<|M<|zl ?_;refine zQ rfl (fun c1 => ?_) (fun c1 => ?_)
 ·replace c1 := ziH c1;refine zB<|E<|zl<|zN<|zm<|zy Y Y<|zH Y Y<|M<|zm<|zhA Y Y<|zZ (v := v) Y Y<|zy Y Y ?_;have hy : ∃ y, xs[k]? = some y := ⟨_, List.getElem?_eq_getElem zD⟩;obtain ⟨y, hy⟩ := hy;obtain ⟨b, o, vs, he, hc, hr⟩ := Sl.elem hsl hy;refine zaH he Y Y (hk := Y) (hu := zaa) (hz := zL) Y ?_;obtain ⟨u, rfl⟩ : ∃ u, vs = [u] := by
   have q := LInt.len hr
   match vs, q with
   | [u], _ => exact ⟨u, rfl⟩
  refine zd (j := 0) hsub hc Y Y Y zU Y ?_;refine zaA rfl rfl (zbW (fs := []) (cs := caps) rfl rfl hg rfl) ((hf k y h1 w1 _ hS1 hy hr _ rfl).mono ?_);rintro e w2 ⟨h2, rfl, hS2⟩;refine ⟨_, rfl, ?_⟩;refine M ?_;refine zQ rfl (fun c2 => ?_) (fun c2 => ?_)
  ·refine zl ?_;refine zf<|zy Y Y<|zH Y Y<|M<|zw ?_
   repeat (first | refine zI ?_ | refine zi ?_)
   refine zg Tryz.results164 ?_;have hlt : k < xs.length := by omega
   exact ⟨h2, k, by rw [if_pos hlt]; rfl, hk, hp, fun _ => c2, by rw [if_pos hlt]; exact hS2⟩
  ·refine zB ?_;refine zX<|E<|zf ?_;refine Z rfl rfl (zdK rfl rfl zD) ?_;refine zy Y Y<|M ?_;refine ⟨⟨k + 1, h2⟩, ⟨rfl, trivial⟩, ?_, ⟨hS2, by omega, ?_⟩, ?_⟩
   ·exact zbs
   ·intro j hj
    rcases Nat.lt_or_ge j k with h3 | h3
    ·exact hp j h3
    ·obtain rfl : j = k := by omega
     exact c2
   ·show xs.length - (k + 1) < xs.length - k;omega
 ·replace c1 := t_of c1;refine zaX<|zt<|zt<|zaK<|E<|zm<|zH Y Y<|M<|zw<|zg Tryz.results164 ?_;have hlt : ¬ k < xs.length := by omega
  exact ⟨h1, k, by rw [if_neg hlt]; rfl, hk, hp, fun q => absurd q hlt, by rw [if_neg hlt]; exact hS1⟩

theorem zgv {xs : List Int} {v : Value} {g : FuncId} {caps : List Value} (S : Nat → Heap → World → Prop) (p : Nat → Bool)
  (hS : ∀ k h w, S k h w → Sub h w ∧ Sl LInt h v xs)
  (hf : ∀ k x h w vs, S k h w → xs[k]? = some x → LInt.R h vs x → ∀ u, vs = [u] → Calls Tryz.prog g (u :: caps).toArray w (fun e w' => ∃ h', e = .returned (.bool (p k)) ∧ S (k + 1) h' w'))
  (hg : ∀ a w, (callFunc g a).run Tryz.prog w = .ok (.enter g a) w) {h : Heap} {w : World} (h0 : S 0 h w) :
  Calls Tryz.prog 118 #[v, .func (.func g) #[] caps.toArray] w (fun e w' => ∃ h' k, e = .returned (.bool (decide (k < xs.length))) ∧ k ≤ xs.length ∧ (∀ j, j < k → p j = false) ∧ (k < xs.length → p k = true) ∧ S (if k < xs.length then k + 1 else k) h' w') := by
 refine zM (n := 9) Tryz.func118 Y Y Y<|zm<|zJ Y Y<|M<|zm<|zZ (v := v) Y Y<|zhA Y Y ?_;refine zaA rfl rfl (zbe rfl Tryz.call164 rfl) ((zhb S p hS hf hg h0).mono ?_);rintro e w2 ⟨h2, k, rfl, q1, q2, q3, q4⟩;refine ⟨_, rfl, ?_⟩;refine v_geq Y Y Y<|zJ Y Y<|M<|zw<|zg Tryz.results118 ?_;refine ⟨h2, k, congrArg Ending.returned (zA ?_), q1, q2, q3, q4⟩
 by_cases hlt : k < xs.length
 ·simp [hlt]
 ·simp [hlt]
theorem zeH {xs : List Int} {v : Value} {g : FuncId} {caps : List Value} {h : Heap} {w : World} (hs : Sub h w) (hx : Sl LInt h v xs) (q : Int → Bool)
  (hg : ∀ a w, (callFunc g a).run Tryz.prog w = .ok (.enter g a) w)
  (hf : ∀ x h' w' vs, Le h h' → Sub h' w' → x ∈ xs → LInt.R h' vs x → ∀ u, vs = [u] → Calls Tryz.prog g (u :: caps).toArray w' (Rets h' w' fun _ _ r => r = .bool (q x))) :
  Calls Tryz.prog 118 #[v, .func (.func g) #[] caps.toArray] w (Rets h w fun _ _ r => r = .bool (xs.any q)) := by
 refine (zgv (fun k h' w' => St h w h' w' [] ∧ k ≤ xs.length) (fun k => ((xs[k]?).map q).getD false) (fun k h' w' hk => ⟨hk.1.sub, hx.up hk.1.le⟩) ?_ hg ⟨St.start hs, Nat.zero_le _⟩).mono ?_
 ·rintro k x h' w' vs ⟨st, _⟩ hk hr u hu;refine (hf x h' w' vs st.le st.sub (List.mem_of_getElem? hk) hr u hu).mono ?_;rintro e w'' ⟨h'', r, rfl, s, rfl⟩;obtain ⟨hlt, _⟩ := List.getElem?_eq_some_iff.1 hk;exact ⟨h'', by simp [hk], st.call0 s, hlt⟩
 ·rintro e w' ⟨h', k, rfl, q1, q2, q3, q4⟩;refine ⟨h', _, rfl, q4.1, zA ?_⟩
  by_cases hlt : k < xs.length
  ·have h3 := q3 hlt;rw [List.getElem?_eq_getElem hlt] at h3;simp only [Option.map_some, Option.getD_some] at h3;have : xs.any q = true := List.any_eq_true.2 ⟨_, List.getElem_mem hlt, h3⟩;simp [hlt, this]
  ·have : xs.any q = false := by
    rw [List.any_eq_false];intro x hx';obtain ⟨j, hj⟩ := List.mem_iff_getElem?.1 hx';obtain ⟨h5, _⟩ := List.getElem?_eq_some_iff.1 hj;have := q2 j zD;simpa [hj] using this
   simp [hlt, this]

theorem zfx {xs : List (List Str)} {v : Value} {g : FuncId} {caps : List Value} (S : Nat → Heap → World → Prop) (p : Nat → Bool)
  (hS : ∀ k h w, S k h w → Sub h w ∧ Sl (LSl LStr) h v xs)
  (hf : ∀ k x h w vs, S k h w → xs[k]? = some x → (LSl LStr).R h vs x → ∀ u, vs = [u] → Calls Tryz.prog g (u :: caps).toArray w (fun e w' => ∃ h', e = .returned (.bool (p k)) ∧ S (k + 1) h' w'))
  (hg : ∀ a w, (callFunc g a).run Tryz.prog w = .ok (.enter g a) w) {h : Heap} {w : World} (h0 : S 0 h w) :
  Calls Tryz.prog 169 #[v, .func (.func g) #[] caps.toArray] w (fun e w' => ∃ h' k, e = .returned (.int .i64 (if k < xs.length then (k : Int) else -1)) ∧ k ≤ xs.length ∧ (∀ j, j < k → p j = false) ∧ (k < xs.length → p k = true) ∧ S (if k < xs.length then k + 1 else k) h' w') := by
 refine zM (n := 19) Tryz.func169 Y Y Y<|have hb:=(hS 0 h w h0).2.le;zm<|zH Y Y<|M<|zl<|zm<|zZ (v := v) Y Y<|zbr (hS 0 h w h0).2 Y zas Y<|zy Y Y<|M<|zN ?_;refine zaR ([4, 5] ++ zdA 8 11) (G := Nat × Heap) (fun ⟨k, _⟩ => [(8, .int .i64 (k : Int))]) (fun ⟨k, h'⟩ w' => S k h' w' ∧ k ≤ xs.length ∧ ∀ j, j < k → p j = false) (fun ⟨k, _⟩ => xs.length - k) ⟨0, h⟩ ⟨rfl, trivial⟩ ⟨h0, by omega, by intros; omega⟩ ?_;rintro ⟨k, h1⟩ _ w1 ⟨hS1, hk, hp⟩;obtain ⟨hsub, hsl⟩ := hS k h1 w1 hS1;refine zm<|zbV Y Y Y<|M<|zl ?_;refine zQ rfl (fun c1 => ?_) (fun c1 => ?_)
 ·replace c1 := ziH c1;refine zB<|E<|zl<|zN<|zm<|zy Y Y<|zH Y Y<|M<|zm<|zhA Y Y<|zZ (v := v) Y Y<|zy Y Y ?_;have hy : ∃ y, xs[k]? = some y := ⟨_, List.getElem?_eq_getElem zD⟩;obtain ⟨y, hy⟩ := hy;obtain ⟨b, o, vs, he, hc, hr⟩ := Sl.elem hsl hy;refine zaH he Y Y (hk := Y) (hu := zas) (hz := zcV) Y ?_;obtain ⟨u, rfl⟩ : ∃ u, vs = [u] := by
   have q := (LSl LStr).len hr
   match vs, q with
   | [u], _ => exact ⟨u, rfl⟩
  refine zd (j := 0) hsub hc Y Y Y zdh Y ?_;refine zaA rfl rfl (zbW (fs := []) (cs := caps) rfl rfl hg rfl) ((hf k y h1 w1 _ hS1 hy hr _ rfl).mono ?_);rintro e w2 ⟨h2, rfl, hS2⟩;refine ⟨_, rfl, ?_⟩;refine M ?_;refine zQ rfl (fun c2 => ?_) (fun c2 => ?_)
  ·refine zl ?_;refine zf<|zy Y Y<|zH Y Y<|M<|zw ?_
   repeat (first | refine zI ?_ | refine zi ?_)
   refine zg Tryz.results169 ?_;have hlt : k < xs.length := by omega
   exact ⟨h2, k, by rw [if_pos hlt]; rfl, hk, hp, fun _ => c2, by rw [if_pos hlt]; exact hS2⟩
  ·refine zB ?_;refine zX<|E<|zf ?_;refine Z rfl rfl (zdK rfl rfl zD) ?_;refine zy Y Y<|M ?_;refine ⟨⟨k + 1, h2⟩, ⟨rfl, trivial⟩, ?_, ⟨hS2, by omega, ?_⟩, ?_⟩
   ·exact zbs
   ·intro j hj
    rcases Nat.lt_or_ge j k with h3 | h3
    ·exact hp j h3
    ·obtain rfl : j = k := by omega
     exact c2
   ·show xs.length - (k + 1) < xs.length - k;omega
 ·replace c1 := t_of c1;refine zaX<|zt<|zt<|zaK<|E<|zm<|zH Y Y<|M<|zw<|zg Tryz.results169 ?_;have hlt : ¬ k < xs.length := by omega
  exact ⟨h1, k, by rw [if_neg hlt]; rfl, hk, hp, fun q => absurd q hlt, by rw [if_neg hlt]; exact hS1⟩

theorem zfd {xs : List (List Str)} {v : Value} {g : FuncId} {caps : List Value} (S : Nat → Heap → World → Prop) (p : Nat → Bool)
  (hS : ∀ k h w, S k h w → Sub h w ∧ Sl (LSl LStr) h v xs)
  (hf : ∀ k x h w vs, S k h w → xs[k]? = some x → (LSl LStr).R h vs x → ∀ u, vs = [u] → Calls Tryz.prog g (u :: caps).toArray w (fun e w' => ∃ h', e = .returned (.bool (p k)) ∧ S (k + 1) h' w'))
  (hg : ∀ a w, (callFunc g a).run Tryz.prog w = .ok (.enter g a) w) {h : Heap} {w : World} (h0 : S 0 h w) :
  Calls Tryz.prog 126 #[v, .func (.func g) #[] caps.toArray] w (fun e w' => ∃ h' k, e = .returned (.bool (decide (k < xs.length))) ∧ k ≤ xs.length ∧ (∀ j, j < k → p j = false) ∧ (k < xs.length → p k = true) ∧ S (if k < xs.length then k + 1 else k) h' w') := by
 refine zM (n := 9) Tryz.func126 Y Y Y<|zm<|zJ Y Y<|M<|zm<|zZ (v := v) Y Y<|zhA Y Y ?_;refine zaA rfl rfl (zbe rfl Tryz.call169 rfl) ((zfx S p hS hf hg h0).mono ?_);rintro e w2 ⟨h2, k, rfl, q1, q2, q3, q4⟩;refine ⟨_, rfl, ?_⟩;refine v_geq Y Y Y<|zJ Y Y<|M<|zw<|zg Tryz.results126 ?_;refine ⟨h2, k, congrArg Ending.returned (zA ?_), q1, q2, q3, q4⟩
 by_cases hlt : k < xs.length
 ·simp [hlt]
 ·simp [hlt]
theorem zfy {xs : List (List Str)} {v : Value} {g : FuncId} {caps : List Value} {h : Heap} {w : World} (hs : Sub h w) (hx : Sl (LSl LStr) h v xs) (q : (List Str) → Bool)
  (hg : ∀ a w, (callFunc g a).run Tryz.prog w = .ok (.enter g a) w)
  (hf : ∀ x h' w' vs, Le h h' → Sub h' w' → x ∈ xs → (LSl LStr).R h' vs x → ∀ u, vs = [u] → Calls Tryz.prog g (u :: caps).toArray w' (Rets h' w' fun _ _ r => r = .bool (q x))) :
  Calls Tryz.prog 126 #[v, .func (.func g) #[] caps.toArray] w (Rets h w fun _ _ r => r = .bool (xs.any q)) := by
 refine (zfd (fun k h' w' => St h w h' w' [] ∧ k ≤ xs.length) (fun k => ((xs[k]?).map q).getD false) (fun k h' w' hk => ⟨hk.1.sub, hx.up hk.1.le⟩) ?_ hg ⟨St.start hs, Nat.zero_le _⟩).mono ?_
 ·rintro k x h' w' vs ⟨st, _⟩ hk hr u hu;refine (hf x h' w' vs st.le st.sub (List.mem_of_getElem? hk) hr u hu).mono ?_;rintro e w'' ⟨h'', r, rfl, s, rfl⟩;obtain ⟨hlt, _⟩ := List.getElem?_eq_some_iff.1 hk;exact ⟨h'', by simp [hk], st.call0 s, hlt⟩
 ·rintro e w' ⟨h', k, rfl, q1, q2, q3, q4⟩;refine ⟨h', _, rfl, q4.1, zA ?_⟩
  by_cases hlt : k < xs.length
  ·have h3 := q3 hlt;rw [List.getElem?_eq_getElem hlt] at h3;simp only [Option.map_some, Option.getD_some] at h3;have : xs.any q = true := List.any_eq_true.2 ⟨_, List.getElem_mem hlt, h3⟩;simp [hlt, this]
  ·have : xs.any q = false := by
    rw [List.any_eq_false];intro x hx';obtain ⟨j, hj⟩ := List.mem_iff_getElem?.1 hx';obtain ⟨h5, _⟩ := List.getElem?_eq_some_iff.1 hj;have := q2 j zD;simpa [hj] using this
   simp [hlt, this]

theorem zfm {xs : List Rule} {v : Value} {g : FuncId} {caps : List Value} (S : Nat → Heap → World → Prop) (p : Nat → Bool)
  (hS : ∀ k h w, S k h w → Sub h w ∧ Sl LRule h v xs)
  (hf : ∀ k x h w vs, S k h w → xs[k]? = some x → LRule.R h vs x → ∀ u, u = .agg vs.toArray → Calls Tryz.prog g (u :: caps).toArray w (fun e w' => ∃ h', e = .returned (.bool (p k)) ∧ S (k + 1) h' w'))
  (hg : ∀ a w, (callFunc g a).run Tryz.prog w = .ok (.enter g a) w) {h : Heap} {w : World} (h0 : S 0 h w) :
  Calls Tryz.prog 174 #[v, .func (.func g) #[] caps.toArray] w (fun e w' => ∃ h' k, e = .returned (.int .i64 (if k < xs.length then (k : Int) else -1)) ∧ k ≤ xs.length ∧ (∀ j, j < k → p j = false) ∧ (k < xs.length → p k = true) ∧ S (if k < xs.length then k + 1 else k) h' w') := by
 refine zM (n := 19) Tryz.func174 Y Y Y<|have hb:=(hS 0 h w h0).2.le;zm<|zH Y Y<|M<|zl<|zm<|zZ (v := v) Y Y<|zbr (hS 0 h w h0).2 Y zbE Y<|zy Y Y<|M<|zN ?_;refine zaR ([4, 5] ++ zdA 8 11) (G := Nat × Heap) (fun ⟨k, _⟩ => [(8, .int .i64 (k : Int))]) (fun ⟨k, h'⟩ w' => S k h' w' ∧ k ≤ xs.length ∧ ∀ j, j < k → p j = false) (fun ⟨k, _⟩ => xs.length - k) ⟨0, h⟩ ⟨rfl, trivial⟩ ⟨h0, by omega, by intros; omega⟩ ?_;rintro ⟨k, h1⟩ _ w1 ⟨hS1, hk, hp⟩;obtain ⟨hsub, hsl⟩ := hS k h1 w1 hS1;refine zm<|zbV Y Y Y<|M<|zl ?_;refine zQ rfl (fun c1 => ?_) (fun c1 => ?_)
 ·replace c1 := ziH c1;refine zB<|E<|zl<|zN<|zm<|zy Y Y<|zH Y Y<|M<|zm<|zhA Y Y<|zZ (v := v) Y Y<|zy Y Y ?_;have hy : ∃ y, xs[k]? = some y := ⟨_, List.getElem?_eq_getElem zD⟩;obtain ⟨y, hy⟩ := hy;obtain ⟨b, o, vs, he, hc, hr⟩ := Sl.elem hsl hy;refine zaH he Y Y (hk := Y) (hu := zbE) (hz := zdT) Y<|zp hsub hc Y Tryz.isAgg121 zdT (LRule.len hr) Y ?_;refine zaA rfl rfl (zbW (fs := []) (cs := caps) rfl rfl hg rfl) ((hf k y h1 w1 _ hS1 hy hr _ rfl).mono ?_);rintro e w2 ⟨h2, rfl, hS2⟩;refine ⟨_, rfl, ?_⟩;refine M ?_;refine zQ rfl (fun c2 => ?_) (fun c2 => ?_)
  ·refine zl ?_;refine zf<|zy Y Y<|zH Y Y<|M<|zw ?_
   repeat (first | refine zI ?_ | refine zi ?_)
   refine zg Tryz.results174 ?_;have hlt : k < xs.length := by omega
   exact ⟨h2, k, by rw [if_pos hlt]; rfl, hk, hp, fun _ => c2, by rw [if_pos hlt]; exact hS2⟩
  ·refine zB ?_;refine zX<|E<|zf ?_;refine Z rfl rfl (zdK rfl rfl zD) ?_;refine zy Y Y<|M ?_;refine ⟨⟨k + 1, h2⟩, ⟨rfl, trivial⟩, ?_, ⟨hS2, by omega, ?_⟩, ?_⟩
   ·exact zbs
   ·intro j hj
    rcases Nat.lt_or_ge j k with h3 | h3
    ·exact hp j h3
    ·obtain rfl : j = k := by omega
     exact c2
   ·show xs.length - (k + 1) < xs.length - k;omega
 ·replace c1 := t_of c1;refine zaX<|zt<|zt<|zaK<|E<|zm<|zH Y Y<|M<|zw<|zg Tryz.results174 ?_;have hlt : ¬ k < xs.length := by omega
  exact ⟨h1, k, by rw [if_neg hlt]; rfl, hk, hp, fun q => absurd q hlt, by rw [if_neg hlt]; exact hS1⟩

theorem zeO {xs : List Rule} {v : Value} {g : FuncId} {caps : List Value} (S : Nat → Heap → World → Prop) (p : Nat → Bool)
  (hS : ∀ k h w, S k h w → Sub h w ∧ Sl LRule h v xs)
  (hf : ∀ k x h w vs, S k h w → xs[k]? = some x → LRule.R h vs x → ∀ u, u = .agg vs.toArray → Calls Tryz.prog g (u :: caps).toArray w (fun e w' => ∃ h', e = .returned (.bool (p k)) ∧ S (k + 1) h' w'))
  (hg : ∀ a w, (callFunc g a).run Tryz.prog w = .ok (.enter g a) w) {h : Heap} {w : World} (h0 : S 0 h w) :
  Calls Tryz.prog 139 #[v, .func (.func g) #[] caps.toArray] w (fun e w' => ∃ h' k, e = .returned (.bool (decide (k < xs.length))) ∧ k ≤ xs.length ∧ (∀ j, j < k → p j = false) ∧ (k < xs.length → p k = true) ∧ S (if k < xs.length then k + 1 else k) h' w') := by
 refine zM (n := 9) Tryz.func139 Y Y Y<|zm<|zJ Y Y<|M<|zm<|zZ (v := v) Y Y<|zhA Y Y ?_;refine zaA rfl rfl (zbe rfl Tryz.call174 rfl) ((zfm S p hS hf hg h0).mono ?_);rintro e w2 ⟨h2, k, rfl, q1, q2, q3, q4⟩;refine ⟨_, rfl, ?_⟩;refine v_geq Y Y Y<|zJ Y Y<|M<|zw<|zg Tryz.results139 ?_;refine ⟨h2, k, congrArg Ending.returned (zA ?_), q1, q2, q3, q4⟩
 by_cases hlt : k < xs.length
 ·simp [hlt]
 ·simp [hlt]
theorem zen {xs : List Decision} {v : Value} {g : FuncId} {caps : List Value} (S : Nat → Heap → World → Prop) (p : Nat → Bool)
  (hS : ∀ k h w, S k h w → Sub h w ∧ Sl LDecision h v xs)
  (hf : ∀ k x h w vs, S k h w → xs[k]? = some x → LDecision.R h vs x → ∀ u, u = .agg vs.toArray → Calls Tryz.prog g (u :: caps).toArray w (fun e w' => ∃ h', e = .returned (.bool (p k)) ∧ S (k + 1) h' w'))
  (hg : ∀ a w, (callFunc g a).run Tryz.prog w = .ok (.enter g a) w) {h : Heap} {w : World} (h0 : S 0 h w) :
  Calls Tryz.prog 175 #[v, .func (.func g) #[] caps.toArray] w (fun e w' => ∃ h' k, e = .returned (.int .i64 (if k < xs.length then (k : Int) else -1)) ∧ k ≤ xs.length ∧ (∀ j, j < k → p j = false) ∧ (k < xs.length → p k = true) ∧ S (if k < xs.length then k + 1 else k) h' w') := by
 refine zM (n := 19) Tryz.func175 Y Y Y<|have hb:=(hS 0 h w h0).2.le;zm<|zH Y Y<|M<|zl<|zm<|zZ (v := v) Y Y<|zbr (hS 0 h w h0).2 Y zac Y<|zy Y Y<|M<|zN ?_;refine zaR ([4, 5] ++ zdA 8 11) (G := Nat × Heap) (fun ⟨k, _⟩ => [(8, .int .i64 (k : Int))]) (fun ⟨k, h'⟩ w' => S k h' w' ∧ k ≤ xs.length ∧ ∀ j, j < k → p j = false) (fun ⟨k, _⟩ => xs.length - k) ⟨0, h⟩ ⟨rfl, trivial⟩ ⟨h0, by omega, by intros; omega⟩ ?_;rintro ⟨k, h1⟩ _ w1 ⟨hS1, hk, hp⟩;obtain ⟨hsub, hsl⟩ := hS k h1 w1 hS1;refine zm<|zbV Y Y Y<|M<|zl ?_;refine zQ rfl (fun c1 => ?_) (fun c1 => ?_)
 ·replace c1 := ziH c1;refine zB<|E<|zl<|zN<|zm<|zy Y Y<|zH Y Y<|M<|zm<|zhA Y Y<|zZ (v := v) Y Y<|zy Y Y ?_;have hy : ∃ y, xs[k]? = some y := ⟨_, List.getElem?_eq_getElem zD⟩;obtain ⟨y, hy⟩ := hy;obtain ⟨b, o, vs, he, hc, hr⟩ := Sl.elem hsl hy;refine zaH he Y Y (hk := Y) (hu := zac) (hz := zK) Y<|zp hsub hc Y zaP zK (LDecision.len hr) Y ?_;refine zaA rfl rfl (zbW (fs := []) (cs := caps) rfl rfl hg rfl) ((hf k y h1 w1 _ hS1 hy hr _ rfl).mono ?_);rintro e w2 ⟨h2, rfl, hS2⟩;refine ⟨_, rfl, ?_⟩;refine M ?_;refine zQ rfl (fun c2 => ?_) (fun c2 => ?_)
  ·refine zl ?_;refine zf<|zy Y Y<|zH Y Y<|M<|zw ?_
   repeat (first | refine zI ?_ | refine zi ?_)
   refine zg Tryz.results175 ?_;have hlt : k < xs.length := by omega
   exact ⟨h2, k, by rw [if_pos hlt]; rfl, hk, hp, fun _ => c2, by rw [if_pos hlt]; exact hS2⟩
  ·refine zB ?_;refine zX<|E<|zf ?_;refine Z rfl rfl (zdK rfl rfl zD) ?_;refine zy Y Y<|M ?_;refine ⟨⟨k + 1, h2⟩, ⟨rfl, trivial⟩, ?_, ⟨hS2, by omega, ?_⟩, ?_⟩
   ·exact zbs
   ·intro j hj
    rcases Nat.lt_or_ge j k with h3 | h3
    ·exact hp j h3
    ·obtain rfl : j = k := by omega
     exact c2
   ·show xs.length - (k + 1) < xs.length - k;omega
 ·replace c1 := t_of c1;refine zaX<|zt<|zt<|zaK<|E<|zm<|zH Y Y<|M<|zw<|zg Tryz.results175 ?_;have hlt : ¬ k < xs.length := by omega
  exact ⟨h1, k, by rw [if_neg hlt]; rfl, hk, hp, fun q => absurd q hlt, by rw [if_neg hlt]; exact hS1⟩

theorem zee {xs : List Decision} {v : Value} {g : FuncId} {caps : List Value} (S : Nat → Heap → World → Prop) (p : Nat → Bool)
  (hS : ∀ k h w, S k h w → Sub h w ∧ Sl LDecision h v xs)
  (hf : ∀ k x h w vs, S k h w → xs[k]? = some x → LDecision.R h vs x → ∀ u, u = .agg vs.toArray → Calls Tryz.prog g (u :: caps).toArray w (fun e w' => ∃ h', e = .returned (.bool (p k)) ∧ S (k + 1) h' w'))
  (hg : ∀ a w, (callFunc g a).run Tryz.prog w = .ok (.enter g a) w) {h : Heap} {w : World} (h0 : S 0 h w) :
  Calls Tryz.prog 141 #[v, .func (.func g) #[] caps.toArray] w (fun e w' => ∃ h' k, e = .returned (.bool (decide (k < xs.length))) ∧ k ≤ xs.length ∧ (∀ j, j < k → p j = false) ∧ (k < xs.length → p k = true) ∧ S (if k < xs.length then k + 1 else k) h' w') := by
 refine zM (n := 9) Tryz.func141 Y Y Y<|zm<|zJ Y Y<|M<|zm<|zZ (v := v) Y Y<|zhA Y Y ?_;refine zaA rfl rfl (zbe rfl Tryz.call175 rfl) ((zen S p hS hf hg h0).mono ?_);rintro e w2 ⟨h2, k, rfl, q1, q2, q3, q4⟩;refine ⟨_, rfl, ?_⟩;refine v_geq Y Y Y<|zJ Y Y<|M<|zw<|zg Tryz.results141 ?_;refine ⟨h2, k, congrArg Ending.returned (zA ?_), q1, q2, q3, q4⟩
 by_cases hlt : k < xs.length
 ·simp [hlt]
 ·simp [hlt]
end Go.Pk

namespace Go.Pk
open Go Go.RowKit Go.Proofs
theorem c_leaf_in_1 {h : Heap} {w : World} (hs : Sub h w) (n : Int) {lo_b : Nat} {lo : Int} (lo_c : Cells h lo_b 0 [.int .i64 lo]) {hi_b : Nat} {hi : Int} (hi_c : Cells h hi_b 0 [.int .i64 hi]) : Calls Tryz.prog 119 #[.int .i64 n, .pointer (some ⟨lo_b, 0, none⟩), .pointer (some ⟨hi_b, 0, none⟩)] w (Rets h w (fun _ _ res_ => res_ = .bool ((decide (n < lo) || decide (hi < n))))) := by
 refine zM (n := 13) Tryz.func119 Y Y Y<|have st0:=zcf hs;zm<|zJ Y Y<|M<|zm<|zy Y Y<|zd (j := 0) st0.sub lo_c Y Y Y zU Y<|zbV Y Y Y<|zag Y Y ?_;refine zaT (d := 8) rfl (fun g1 => ?_) (fun g1 => ?_)
 ·refine zP 3 Y<|zak (v := (.bool _)) Y Y Y<|zJ Y Y<|M<|zw<|zg Tryz.results119 ?_;refine ⟨h, _, rfl, st0.done, ?_⟩;refine zA ?_
  first | (simp_all; done) | (simp_all; omega)
 refine U Y Y Y<|zy Y Y<|U Y Y Y<|zd (j := 0) st0.sub hi_c Y Y Y zU Y<|U Y Y Y<|zeQ Y Y Y<|zT (v := (.bool _)) Y Y Y<|zJ Y Y<|M<|zw<|zg Tryz.results119 ?_;refine ⟨h, _, rfl, st0.done, ?_⟩;refine zA ?_
 first | (simp_all; done) | (simp_all; omega)
theorem zdg {h : Heap} {w : World} (hs : Sub h w) (lo : Int) (hi : Int) {all__v : Value} {all_ : (List Int)} (all__f : Sl LInt h all__v all_) : Calls Tryz.prog 74 #[.int .i64 lo, .int .i64 hi, all__v] w (Rets h w (fun _ _ res_ => res_ = .bool (zcJ all_ lo hi))) := by
 refine zM (n := 11) Tryz.func74 Y Y Y<|have st0:=zcf hs;have all__f_b:=all__f.le;zm<|zC st0 (cs := [.int .i64 lo]) Y Y Y<|fun b1 w2 h3 le4 hc5 st6=>zC st6 (cs := [.int .i64 hi]) Y Y Y<|fun b7 w8 h9 le10 hc11 st12=>zJ Y Y<|M<|zm<|zZ (v := all__v) Y Y<|zeP Y Y Y ?_;have l13 := le4.t le10;refine zk st12 rfl rfl rfl Tryz.call118 rfl (zeH st12.sub (all__f.up l13) (fun x_ => (decide ((x_) < (lo)) || decide ((hi) < (x_)))) Tryz.call119 (fun x_ h_ w_ vs_ le_ hs_ hx_ hr_ u_ hu_ => by cases hu_; cases hr_; exact c_leaf_in_1 hs_ _ (lo := lo) ((hc5.up le10).up le_) (hi := hi) (hc11.up le_))) ?_;intro r14 w15 h16 le17 st18 q19;subst q19;refine zce Y Y<|zJ Y Y<|M<|zw<|zg Tryz.results74 ?_;refine ⟨h16, _, rfl, st18.done, ?_⟩;refine zA ?_;exact inAll_eq all_ lo hi
theorem c_stem_in_1 {h : Heap} {w : World} (hs : Sub h w) (n : Int) {lo_b : Nat} {lo : Int} (lo_c : Cells h lo_b 0 [.int .i64 lo]) {hi_b : Nat} {hi : Int} (hi_c : Cells h hi_b 0 [.int .i64 hi]) : Calls Tryz.prog 121 #[.int .i64 n, .pointer (some ⟨lo_b, 0, none⟩), .pointer (some ⟨hi_b, 0, none⟩)] w (Rets h w (fun _ _ res_ => res_ = .bool ((decide (n < lo) || decide (hi < n))))) := by
 refine zM (n := 13) Tryz.func121 Y Y Y<|have st0:=zcf hs;zm<|zJ Y Y<|M<|zm<|zy Y Y<|zd (j := 0) st0.sub lo_c Y Y Y zU Y<|zbV Y Y Y<|zag Y Y ?_;refine zaT (d := 8) rfl (fun g1 => ?_) (fun g1 => ?_)
 ·refine zP 3 Y<|zak (v := (.bool _)) Y Y Y<|zJ Y Y<|M<|zw<|zg Tryz.results121 ?_;refine ⟨h, _, rfl, st0.done, ?_⟩;refine zA ?_
  first | (simp_all; done) | (simp_all; omega)
 refine U Y Y Y<|zy Y Y<|U Y Y Y<|zd (j := 0) st0.sub hi_c Y Y Y zU Y<|U Y Y Y<|zeQ Y Y Y<|zT (v := (.bool _)) Y Y Y<|zJ Y Y<|M<|zw<|zg Tryz.results121 ?_;refine ⟨h, _, rfl, st0.done, ?_⟩;refine zA ?_
 first | (simp_all; done) | (simp_all; omega)
theorem zjf {h : Heap} {w : World} (hs : Sub h w) (lo : Int) (hi : Int) {all__v : Value} {all_ : (List Int)} (all__f : Sl LInt h all__v all_) : Calls Tryz.prog 78 #[.int .i64 lo, .int .i64 hi, all__v] w (Rets h w (fun _ _ res_ => res_ = .bool (zcJ all_ lo hi))) := by
 refine zM (n := 11) Tryz.func78 Y Y Y<|have st0:=zcf hs;have all__f_b:=all__f.le;zm<|zC st0 (cs := [.int .i64 lo]) Y Y Y<|fun b1 w2 h3 le4 hc5 st6=>zC st6 (cs := [.int .i64 hi]) Y Y Y<|fun b7 w8 h9 le10 hc11 st12=>zJ Y Y<|M<|zm<|zZ (v := all__v) Y Y<|zeP Y Y Y ?_;have l13 := le4.t le10;refine zk st12 rfl rfl rfl Tryz.call118 rfl (zeH st12.sub (all__f.up l13) (fun x_ => (decide ((x_) < (lo)) || decide ((hi) < (x_)))) Tryz.call121 (fun x_ h_ w_ vs_ le_ hs_ hx_ hr_ u_ hu_ => by cases hu_; cases hr_; exact c_stem_in_1 hs_ _ (lo := lo) ((hc5.up le10).up le_) (hi := hi) (hc11.up le_))) ?_;intro r14 w15 h16 le17 st18 q19;subst q19;refine zce Y Y<|zJ Y Y<|M<|zw<|zg Tryz.results78 ?_;refine ⟨h16, _, rfl, st18.done, ?_⟩;refine zA ?_;exact inAll_eq all_ lo hi
theorem c_leaf_word_1 {h : Heap} {w : World} (hs : Sub h w) (b : Int) (b_l : 0 ≤ b ∧ b ≤ 255) : Calls Tryz.prog 76 #[.int .u8 b] w (Rets h w (fun _ _ res_ => res_ = .bool ((decide (b < 97) || decide (122 < b))))) := by
 refine zM (n := 9) Tryz.func76 Y Y Y<|have st0:=zcf hs;zm<|zJ Y Y<|M<|zm<|zy Y Y<|zbV Y Y Y<|zag Y Y ?_;refine zaT (d := 5) rfl (fun g1 => ?_) (fun g1 => ?_)
 ·refine zP 2 Y<|zak (v := (.bool _)) Y Y Y<|zJ Y Y<|M<|zw<|zg Tryz.results76 ?_;refine ⟨h, _, rfl, st0.done, ?_⟩;refine zA ?_
  first | (simp_all; done) | (simp_all; omega)
 refine U Y Y Y<|zy Y Y<|U Y Y Y<|zeQ Y Y Y<|zT (v := (.bool _)) Y Y Y<|zJ Y Y<|M<|zw<|zg Tryz.results76 ?_;refine ⟨h, _, rfl, st0.done, ?_⟩;refine zA ?_
 first | (simp_all; done) | (simp_all; omega)
theorem ziB {h : Heap} {w : World} (hs : Sub h w) (s : Str) (s_le : s.length ≤ 281474976710656) : Calls Tryz.prog 46 #[zx s] w (Rets h w (fun _ _ res_ => res_ = .bool (zbS s))) := by
 refine zM (n := 13) Tryz.func46 Y Y Y<|have st0:=zcf hs;zm<|zJ Y Y<|M<|zm<|zcE Y Y<|zcN Y zaz Y<|zae (L := LInt) (xs := [(s.length : Int)]) (cs := [.int .i64 (s.length : Int)]) st0 (Enc.cons (L := LInt) (vs := [.int .i64 (s.length : Int)]) (x := (s.length : Int)) (h := h) (Y) Enc.nil) Y Y Y zaa Tryz.info3 Y Y Y zh<|fun v1 w2 h5 le6 f3 st4=>zk st4 Y Y Y zdM Y (zdg st4.sub _ _ f3)<|fun r7 w8 h9 le10 st11 q12=> ?_;subst q12;refine zag Y Y ?_;refine zaL (d := 7) rfl (fun g13 => ?_) (fun g13 => ?_)
 ·refine U Y Y Y<|zcE Y Y<|U Y Y Y ?_;refine OpsL.strBytes st11 (s := s) rfl (by first | assumption | omega | (simp; omega)) rfl zaz Tryz.underlying147 Tryz.underlying5 zbc ?_;intro v14 w15 h16 le17 f18 st19;refine U Y Y Y ?_;refine zk st19 rfl rfl rfl Tryz.call75 rfl (zgD st19.sub f18 (fun x_ => (decide ((x_) < 97) || decide (122 < (x_)))) Tryz.call76 (fun x_ h_ w_ vs_ le_ hs_ hx_ hr_ u_ hu_ => by cases hu_; obtain ⟨hr1_, hr2_⟩ := hr_; cases hr1_; exact c_leaf_word_1 hs_ _ hr2_)) ?_;intro r20 w21 h22 le23 st24 q25;subst q25;refine U Y Y Y<|zce Y Y<|zak (v := (.bool _)) Y Y Y<|zJ Y Y<|M<|zw<|zg Tryz.results46 ?_;refine ⟨h22, _, rfl, st24.done, ?_⟩;refine zA ?_;simp_all [wordB_eq]
 refine zP 4 Y<|zT (v := (.bool _)) Y Y Y<|zJ Y Y<|M<|zw<|zg Tryz.results46 ?_;refine ⟨h9, _, rfl, st11.done, ?_⟩;refine zA ?_;simp_all [wordB_eq]
theorem c_leaf_Check_1 {h : Heap} {w : World} (hs : Sub h w) (s : Str) (s_le : s.length ≤ 281474976710656) : Calls Tryz.prog 115 #[zx s] w (Rets h w (fun _ _ res_ => res_ = .bool ((!zbS s)))) := by
 refine zM (n := 6) Tryz.func115 Y Y Y<|have st0:=zcf hs;zm<|zJ Y Y<|M<|zm<|zcE Y Y<|zk st0 Y Y Y Tryz.call46 Y (ziB st0.sub _ zbd)<|fun r1 w2 h3 le4 st5 q6=> ?_;subst q6;refine zce Y Y<|zJ Y Y<|M<|zw<|zg Tryz.results115 ?_;refine ⟨h3, _, rfl, st5.done, ?_⟩;refine zA ?_;rfl
theorem c_leaf_Check {h : Heap} {w : World} (hs : Sub h w) {t : Text} {t_v0 : Value} (t_f0 : Sl LChapter h t_v0 t.chapters) : Calls Tryz.prog 70 #[.agg #[t_v0]] w (Rets h w (fun _ _ res_ => res_ = .int .i64 ((if zaM t then 0 else 10)))) := by
 refine zM (n := 64) Tryz.func70 Y Y Y<|have st0:=zcf hs;have t_f0_b:=t_f0.le;zm<|zC st0 (cs := [t_v0]) Y Y Y<|fun b1 w2 h3 le4 hc5 st6=>zH Y Y<|M<|W.scope<|zl<|zm<|zc Y zaJ Y zbh Y Y<|zd (j := 0) st6.sub hc5 Y Y Y zbD Y<|zbr (t_f0.up le4) Y zao Y<|zae (L := LInt) (xs := [(t.chapters.length : Int)]) (cs := [.int .i64 (t.chapters.length : Int)]) st6 (Enc.cons (L := LInt) (vs := [.int .i64 (t.chapters.length : Int)]) (x := (t.chapters.length : Int)) (h := h3) (Y) Enc.nil) Y Y Y zaa Tryz.info3 Y Y Y zh<|fun v7 w8 h11 le12 f9 st10=>zk st10 Y Y Y zdM Y (zdg st10.sub _ _ f9)<|fun r13 w14 h15 le16 st17 q18=> ?_;subst q18;refine zce Y Y<|M ?_;refine zQ rfl (fun c19 => ?_) (fun c19 => ?_)
 ·refine zm<|zH Y Y<|M<|zw<|zi<|zfX<|zg zfz ?_;refine ⟨h15, _, rfl, st17.done, ?_⟩;refine zaI ?_;simp_all [zaM]
 refine zB<|E<|zm<|zH Y Y<|M<|zm<|zfc (κ := Int) (υ := Bool) (ek := (fun n : Int => .int .i64 n)) (eu := (fun b : Bool => .bool b)) st17 Y<|fun v20 o21 w22 f23 st24=> ?_;obtain ⟨mb25, rfl⟩ := f23.form;have nd26 : (([] : List (Int × Bool)).map (·.1)).Nodup := by simp
 refine zaj (v := (.map (some mb25))) Y Y<|M<|zl<|W.label<|E<|zl<|zm<|zc Y zaJ Y zbh Y Y<|zd (j := 0) st24.sub (hc5.up (le12.t le16)) Y Y Y zbD Y<|have l27:=(le4.t le12).t le16;zbr (t_f0.up l27) Y zao Y<|zy Y Y<|M<|zN ?_;refine zaR ([2, 3, 6, 8] ++ zdA 19 44) (G := Nat × List (Int × Bool) × List (Nat × Obj) × Heap) (fun ⟨i, m, o_4, h28⟩ => [(3, .int .i64 0), (19, .int .i64 (i : Int))]) (fun ⟨i, m, o_4, h28⟩ w' => Le h15 h28 ∧ St h w h28 w' [o_4] ∧ (OM (fun n : Int => .int .i64 n) (fun b : Bool => .bool b) (m) o_4 (.map (some mb25))) ∧ (((m).map (·.1)).Nodup) ∧ (i ≤ t.chapters.length) ∧ ((t.chapters.take i).all zbl = true) ∧ (((t.chapters.take i).map (·.id)).Nodup) ∧ (∀ k, (zaV m k).getD false = decide (k ∈ (t.chapters.take i).map (·.id)))) (fun ⟨i, m, o_4, h28⟩ => t.chapters.length - i) ⟨0, [], o21, h15⟩ ⟨rfl, rfl, trivial⟩ ⟨Le.refl _, st24, (by have q := f23; exact q), (by have q := nd26; exact q), zbP, zbP, zbP, (by intro k; simp [zaV])⟩ ?_;rintro ⟨i, m, o_4, h28⟩ _ w31 ⟨le29, st30, hM_4, hN_4, hi, hA, hN, hm⟩;refine zm<|zbV Y Y Y<|M<|zl ?_;refine zV rfl (fun c32 => ?_) (fun c32 => ?_)
 ·refine zB<|E<|zl<|zN<|zm ?_;obtain ⟨c, hc⟩ : ∃ y_, (t.chapters)[i]? = some y_ := zdl zD;have l37 := l27.t le29;obtain ⟨b33, o34, _, he36, hc35, hr_c⟩ := Sl.elem (t_f0.up l37) hc;obtain ⟨v38, rfl, f39⟩ := hr_c;have f39_b := f39.le;refine zaH he36 Y Y (hk := Y) (hu := zao) (hz := zaU) Y<|zp st30.sub hc35 Y zfD zaU Y Y<|zO st30 zdS Y Y<|fun b40 w41 st42=>zF st42 (k := 1) Y Y Y (za Y (za f39.one zat)) zaU Y Y Y<|fun w43 st44=> ?_;obtain ⟨h45, le46, hb47, st49⟩ := st44.freeze (k := 1) rfl;have hc48 := Cells.of hb47;refine M<|zl<|zm<|zc Y zav Y zL Y Y<|zd (j := 0) st49.sub hc48 Y Y Y zU Y<|zae (L := LInt) (xs := [(c.id)]) (cs := [.int .i64 (c.id)]) st49 (Enc.cons (L := LInt) (vs := [.int .i64 (c.id)]) (x := (c.id)) (h := h45) (Y) Enc.nil) Y Y Y zaa Tryz.info3 Y Y Y zh<|fun v50 w51 h54 le55 f52 st53=>zk st53 Y Y Y zdM Y (zdg st53.sub _ _ f52)<|fun r56 w57 h58 le59 st60 q61=> ?_;subst q61;refine zce Y Y<|zag Y Y ?_;refine zaL (d := 28) rfl (fun g62 => ?_) (fun g62 => ?_)
  ·refine zP 4 Y<|zak (v := (.bool _)) Y Y Y<|zag Y Y<|zP 6 Y<|zak (v := (.bool _)) Y Y Y<|M ?_;refine zQ rfl (fun c63 => ?_) (fun c63 => ?_)
   ·refine zm<|zH Y Y<|M<|zw<|zi<|zI<|zi<|zi<|zI<|zi<|zfX<|zg zfz ?_;refine ⟨h58, _, rfl, st60.done, ?_⟩;refine zaI ?_;have q0 : zbl c = false := by
     have q := g62;simp at q;simp [zbl, q]
    have q := zcH (p := zbl) hc q0;simp [zaM, q]
   cases c63
  refine U Y Y Y<|zZ (v := (.map (some mb25))) Y Y<|U Y Y Y<|zc Y zav Y zL Y Y<|U Y Y Y<|zd (j := 0) st60.sub (hc48.up (le55.t le59)) Y Y Y zU Y<|U Y Y Y<|Z Y Y (r_look (k := (c.id)) (zu := false) (zjt zbo) Tryz.underlying169 hM_4 (st60.ent (k := 0) Y) Tryz.zeroValue4 Y Y Y)<|zT (v := (.bool _)) Y Y Y<|zag Y Y ?_;refine zaL (d := 34) rfl (fun g64 => ?_) (fun g64 => ?_)
  ·refine zP 6 Y<|zak (v := (.bool _)) Y Y Y<|M ?_;refine zQ rfl (fun c65 => ?_) (fun c65 => ?_)
   ·refine zm<|zH Y Y<|M<|zw<|zi<|zI<|zi<|zi<|zI<|zi<|zfX<|zg zfz ?_;refine ⟨h58, _, rfl, st60.done, ?_⟩;refine zaI ?_;have q0 := g64;rw [hm] at q0;have q := ziM (f := (·.id)) hc (by simpa using q0);simp [zaM, q]
   cases c65
  refine U Y Y Y<|zc Y zav Y zbj Y Y<|U Y Y Y<|zd (j := 1) st60.sub (hc48.up (le55.t le59)) Y Y Y zbJ Y<|U Y Y Y<|zbr (f39.up ((le46.t le55).t le59)) Y zas Y<|U Y Y Y<|zae (L := LInt) (xs := [(c.lines.length : Int)]) (cs := [.int .i64 (c.lines.length : Int)]) st60 (Enc.cons (L := LInt) (vs := [.int .i64 (c.lines.length : Int)]) (x := (c.lines.length : Int)) (h := h58) (Y) Enc.nil) Y Y Y zaa Tryz.info3 Y Y Y zh<|fun v66 w67 h70 le71 f68 st69=>U Y Y Y<|zk st69 Y Y Y zdM Y (zdg st69.sub _ _ f68)<|fun r72 w73 h74 le75 st76 q77=> ?_;subst q77;refine U Y Y Y<|zce Y Y<|zT (v := (.bool _)) Y Y Y<|M ?_;refine zQ rfl (fun c78 => ?_) (fun c78 => ?_)
  ·refine zm<|zH Y Y<|M<|zw<|zi<|zI<|zi<|zi<|zI<|zi<|zfX<|zg zfz ?_;refine ⟨h74, _, rfl, st76.done, ?_⟩;refine zaI ?_;have q0 : zbl c = false := by
    have q := c78;simp at q;simp [zbl, q]
   have q := zcH (p := zbl) hc q0;simp [zaM, q]
  refine zB<|E<|zm<|zZ (v := (.map (some mb25))) Y Y<|zc Y zav Y zL Y Y<|have l79:=((le55.t le59).t le71).t le75;zd (j := 0) st76.sub (hc48.up l79) Y Y Y zU Y<|zeM (i := 0) st76 hM_4 Y hN_4 (zjt zbo) Tryz.underlying169 Y (k := (c.id)) Y (u := true) Y<|fun o80 w81 _ e82 f83 nd84 st85=> ?_;subst e82;refine M<|zm<|zc Y zav Y zbj Y Y<|zd (j := 1) st85.sub (hc48.up l79) Y Y Y zbJ Y<|have l86:=(((le46.t le55).t le59).t le71).t le75;zbr (f39.up l86) Y zas Y<|zy Y Y<|M<|zN ?_;refine zaR ([3, 8] ++ zdA 48 14) (G := Nat × List (Nat × Obj) × Heap) (fun ⟨k2, o_4, h87⟩ => [(3, .int .i64 0), (48, .int .i64 (k2 : Int))]) (fun ⟨k2, o_4, h87⟩ w' => Le h74 h87 ∧ St h w h87 w' [o_4, []] ∧ (OM (fun n : Int => .int .i64 n) (fun b : Bool => .bool b) (zdQ m c.id true) o_4 (.map (some mb25))) ∧ (((zdQ m c.id true).map (·.1)).Nodup) ∧ (k2 ≤ c.lines.length) ∧ ((c.lines.take k2).all zfn = true)) (fun ⟨k2, o_4, h87⟩ => c.lines.length - k2) ⟨0, o80, h74⟩ ⟨rfl, rfl, trivial⟩ ⟨Le.refl _, st85, (by have q := f83; exact q), (by have q := nd84; exact q), zbP, zbP⟩ ?_;rintro ⟨k2, o_4, h87⟩ _ w90 ⟨le88, st89, hM_4, hN_4, hk2, hl⟩;refine zm<|zbV Y Y Y<|M<|zl ?_;refine zV rfl (fun c91 => ?_) (fun c91 => ?_)
  ·refine zB<|E<|zl<|zN<|zm ?_;obtain ⟨ln, hln⟩ : ∃ y_, (c.lines)[k2]? = some y_ := zdl zD;obtain ⟨b92, o93, _, he95, hc94, hr_ln⟩ := Sl.elem (f39.up (l86.t le88)) hln;obtain ⟨v96, rfl, f97⟩ := hr_ln;have f97_b := f97.le;refine zaH he95 Y Y (hk := Y) (hu := zas) (hz := zcV) Y<|zd (j := 0) st89.sub hc94 Y Y Y zdh Y<|zaj (v := v96) Y Y<|M<|zm<|zZ (v := v96) Y Y<|zbr f97 Y zr Y<|zae (L := LInt) (xs := [(ln.length : Int)]) (cs := [.int .i64 (ln.length : Int)]) st89 (Enc.cons (L := LInt) (vs := [.int .i64 (ln.length : Int)]) (x := (ln.length : Int)) (h := h87) (Y) Enc.nil) Y Y Y zaa Tryz.info3 Y Y Y zh<|fun v98 w99 h102 le103 f100 st101=>zk st101 Y Y Y zdM Y (zdg st101.sub _ _ f100)<|fun r104 w105 h106 le107 st108 q109=> ?_;subst q109;refine zce Y Y<|zag Y Y ?_;refine zaL (d := 57) rfl (fun g110 => ?_) (fun g110 => ?_)
   ·refine zP 2 Y<|zak (v := (.bool _)) Y Y Y<|M ?_;refine zQ rfl (fun c111 => ?_) (fun c111 => ?_)
    ·refine zm<|zH Y Y<|M<|zaX<|zjj Y<|zt<|zt<|zjj Y<|zjj Y<|zt<|zt<|zaK<|E<|zm<|zy Y Y<|zH Y Y<|M<|zw<|zfX<|zg zfz ?_;refine ⟨h106, _, rfl, st108.done, ?_⟩;refine zaI ?_;have q1 : zfn ln = false := by
      have q := g110;simp at q;simp [zfn, q]
     have q2 := zcH (p := zfn) hln q1;have q0 : zbl c = false := by simp [zbl, q2]
     have q := zcH (p := zbl) hc q0;simp [zaM, q]
    cases c111
   refine U Y Y Y<|zZ (v := v96) Y Y<|U Y Y Y ?_;refine zk st108 rfl rfl rfl Tryz.call114 rfl (zfQ st108.sub (f97.up (le103.t le107)) (fun x_ => (!zbS (x_))) Tryz.call115 (fun x_ h_ w_ vs_ le_ hs_ hx_ hr_ u_ hu_ => by cases hu_; obtain ⟨hr1_, hr2_⟩ := hr_; cases hr1_; simp only [big] at hr2_; exact c_leaf_Check_1 hs_ _ hr2_)) ?_;intro r112 w113 h114 le115 st116 q117;subst q117;refine zT (v := (.bool _)) Y Y Y<|M ?_;refine zQ rfl (fun c118 => ?_) (fun c118 => ?_)
   ·refine zm<|zH Y Y<|M<|zaX<|zjj Y<|zt<|zt<|zjj Y<|zjj Y<|zt<|zt<|zaK<|E<|zm<|zy Y Y<|zH Y Y<|M<|zw<|zfX<|zg zfz ?_;refine ⟨h114, _, rfl, st116.done, ?_⟩;refine zaI ?_;have q1 : zfn ln = false := by
     have q := c118;rw [any_not] at q;simp only [zfn, Bool.and_eq_false_iff];right; simpa using q
    have q2 := zcH (p := zfn) hln q1;have q0 : zbl c = false := by simp [zbl, q2]
    have q := zcH (p := zbl) hc q0;simp [zaM, q]
   refine zB<|zX<|E<|zf<|zbK Y Y zbQ Y<|zy Y Y<|M ?_;have l119 := ((le88.t le103).t le107).t le115;refine ⟨⟨k2 + 1, o_4, h114⟩, ⟨rfl, rfl, trivial⟩, ?_, ⟨l119, st116, ?_, ?_, ?_, ?_⟩, ?_⟩
   ·exact zbs
   ·have q := hM_4;exact q
   ·have q := hN_4;exact q
   ·first | omega | (simp; omega)
   ·exact zcr hl hln (by simp_all [zfn])
   show c.lines.length - ((k2 + 1)) < c.lines.length - k2;omega
  refine zaX<|zt<|zt<|zaK<|zX<|E<|zf<|zbK Y Y zbQ Y<|zy Y Y<|M ?_;have HCH : zbl c = true := by
   have q := zde hl zD;simp_all [zbl]
  have HD : (zaV m c.id).getD false = false := by simp_all
  have l120 := (((((le29.t le46).t le55).t le59).t le71).t le75).t le88;refine ⟨⟨i + 1, zdQ m c.id true, o_4, h87⟩, ⟨rfl, rfl, trivial⟩, ?_, ⟨l120, st89.take 1, ?_, ?_, ?_, ?_, ?_, ?_⟩, ?_⟩
  ·exact zbs
  ·have q := hM_4;exact q
  ·have q := hN_4;exact q
  ·first | omega | (simp; omega)
  ·exact zcr hA hc HCH
  ·rw [zbf hc, List.map_append, List.nodup_append];refine ⟨hN, by simp, ?_⟩;intro a ha b hb e;simp only [List.map_cons, List.map_nil, List.mem_singleton] at hb;subst hb;subst e;rw [hm] at HD;exact absurd ha (by simpa using HD)
  ·intro k;rw [zeD, zbf hc, List.map_append]
   by_cases e : k = c.id
   ·simp [e]
   ·simp only [if_neg e, hm];simp [e]
  show t.chapters.length - ((i + 1)) < t.chapters.length - i;omega
 refine zaX<|zt<|zt<|zaK<|E<|zm<|zy Y Y<|zH Y Y<|M<|zw<|zfX<|zg zfz ?_;refine ⟨h28, _, rfl, st30.done, ?_⟩;refine zaI ?_;have q := zde hA zD;have q2 : t.chapters.take i = t.chapters := List.take_of_length_le zD;rw [q2] at hN;simp_all [zaM]
end Go.Pk

namespace Go.Pk
open Go Go.RowKit Go.Proofs
theorem zgo {h : Heap} {w : World} (hs : Sub h w) {a_v : Value} {a : (List Str)} (a_f : Sl LStr h a_v a) {b_v : Value} {b : (List Str)} (b_f : Sl LStr h b_v b) : Calls Tryz.prog 31 #[a_v, b_v] w (Rets h w (fun _ _ res_ => res_ = .bool (decide (a = b)))) := by
 refine zM (n := 26) Tryz.func31 Y Y Y<|have st0:=zcf hs;have a_f_b:=a_f.le;have b_f_b:=b_f.le;zm<|zJ Y Y<|M<|zl<|zm<|zZ (v := a_v) Y Y<|zbr a_f Y zr Y<|zZ (v := b_v) Y Y<|zbr b_f Y zr Y<|zdo Y Y Y<|M ?_;refine zV rfl (fun c1 => ?_) (fun c1 => ?_)
 ·refine zm<|zJ Y Y<|M<|zw<|zi<|zg Tryz.results31 ?_;refine ⟨h, _, rfl, st0.done, ?_⟩;refine zA ?_;have q : a ≠ b := by
   rintro rfl;simp_all
  simp [q]
 refine zB<|E<|zl<|zm<|zH Y Y<|M<|zN ?_;refine zaR ([4, 5] ++ zdA 11 15) (G := Nat × Heap) (fun ⟨k, h2⟩ => [(5, .int .i64 (k : Int))]) (fun ⟨k, h2⟩ w' => Le h h2 ∧ St h w h2 w' [] ∧ (k ≤ a.length) ∧ (a.take k = b.take k)) (fun ⟨k, h2⟩ => a.length - k) ⟨0, h⟩ ⟨rfl, trivial⟩ ⟨Le.refl _, st0, zbP, zbP⟩ ?_;rintro ⟨k, h2⟩ _ w5 ⟨le3, st4, hk, he⟩;refine zl<|zm<|zy Y Y<|zZ (v := a_v) Y Y<|zbr (a_f.up le3) Y zr Y<|zbV Y Y Y<|M ?_;refine zV rfl (fun c6 => ?_) (fun c6 => ?_)
 ·refine zB<|E<|zl<|zN<|zl<|zdE Tryz.mixed zh (Cls h2 _) (Cls.drew st4)<|zfj (v := a_v) Y Y<|zfM Y Y ?_;obtain ⟨x, hx⟩ : ∃ y_, (a)[k]? = some y_ := zdl zD;obtain ⟨b7, o8, _, he10, hc9, hr_x⟩ := Sl.elem (a_f.up le3) hx;obtain ⟨rfl, ls11⟩ := hr_x;simp only [big] at ls11;refine zdy he10 Y Y (hk := Y) (hu := zr) (hz := zY) Y<|zab Y Y (fun _ hC => (zj (j := 0) hC.sub hc9 Y Y Y zau))<|zfj (v := b_v) Y Y<|zfM Y Y ?_;obtain ⟨y, hy⟩ : ∃ y_, (b)[k]? = some y_ := zdl zD;obtain ⟨b12, o13, _, he15, hc14, hr_y⟩ := Sl.elem (b_f.up le3) hy;obtain ⟨rfl, ls16⟩ := hr_y;simp only [big] at ls16;refine zdy he15 Y Y (hk := Y) (hu := zr) (hz := zY) Y<|zab Y Y (fun _ hC => (zj (j := 0) hC.sub hc14 Y Y Y zau))<|zab Y Y (fun _ _ => (r_sneq Y Y))<|zdU ?_;rintro w17 ⟨h18, s19⟩;have st20 := st4.call0 s19;refine E ?_;refine zV rfl (fun c21 => ?_) (fun c21 => ?_)
  ·refine zm<|zJ Y Y<|M<|zw<|zI<|zi<|zi<|zI<|zi<|zg Tryz.results31 ?_;refine ⟨h18, _, rfl, st20.done, ?_⟩;refine zA ?_;have q := ne_of_get hx hy (by simpa using c21);simp [q]
  refine zB<|zX<|E<|zf<|zy Y Y<|zbK Y Y zbQ Y<|zH Y Y<|M ?_;have l22 := le3.trans s19.le;refine ⟨⟨k + 1, h18⟩, ⟨rfl, trivial⟩, ?_, ⟨l22, st20, ?_, ?_⟩, ?_⟩
  ·exact zbs
  ·first | omega | (simp; omega)
  ·exact zhN he hx hy (by simpa using c21)
  show a.length - ((k + 1)) < a.length - k;omega
 refine zaX<|zt<|zt<|zaK<|E<|zm<|zJ Y Y<|M<|zw<|zg Tryz.results31 ?_;refine ⟨h2, _, rfl, st4.done, ?_⟩;refine zA ?_;have q := zjw he zD zD;simp [q]
theorem zgE {h : Heap} {w : World} (hs : Sub h w) {a_v : Value} {a : (List Int)} (a_f : Sl LInt h a_v a) {b_v : Value} {b : (List Int)} (b_f : Sl LInt h b_v b) : Calls Tryz.prog 32 #[a_v, b_v] w (Rets h w (fun _ _ res_ => res_ = .bool (decide (a = b)))) := by
 refine zM (n := 26) Tryz.func32 Y Y Y<|have st0:=zcf hs;have a_f_b:=a_f.le;have b_f_b:=b_f.le;zm<|zJ Y Y<|M<|zl<|zm<|zZ (v := a_v) Y Y<|zbr a_f Y zaa Y<|zZ (v := b_v) Y Y<|zbr b_f Y zaa Y<|zdo Y Y Y<|M ?_;refine zV rfl (fun c1 => ?_) (fun c1 => ?_)
 ·refine zm<|zJ Y Y<|M<|zw<|zi<|zg Tryz.results32 ?_;refine ⟨h, _, rfl, st0.done, ?_⟩;refine zA ?_;have q : a ≠ b := by
   rintro rfl;simp_all
  simp [q]
 refine zB<|E<|zl<|zm<|zZ (v := a_v) Y Y<|zbr a_f Y zaa Y<|zy Y Y<|M<|zN ?_;refine zaR ([4, 5] ++ zdA 13 13) (G := Nat × Heap) (fun ⟨k, h2⟩ => [(13, .int .i64 (k : Int))]) (fun ⟨k, h2⟩ w' => Le h h2 ∧ St h w h2 w' [] ∧ (k ≤ a.length) ∧ (a.take k = b.take k)) (fun ⟨k, h2⟩ => a.length - k) ⟨0, h⟩ ⟨rfl, trivial⟩ ⟨Le.refl _, st0, zbP, zbP⟩ ?_;rintro ⟨k, h2⟩ _ w5 ⟨le3, st4, hk, he⟩;refine zm<|zbV Y Y Y<|M<|zl ?_;refine zV rfl (fun c6 => ?_) (fun c6 => ?_)
 ·refine zB<|E<|zl<|zN<|zm<|zy Y Y<|zH Y Y<|M<|zl<|zdE Tryz.mixed zh (Cls h2 _) (Cls.drew st4)<|zfj (v := a_v) Y Y<|zfM Y Y ?_;obtain ⟨x, hx⟩ : ∃ y_, (a)[k]? = some y_ := zdl zD;obtain ⟨b7, o8, _, he10, hc9, hr_x⟩ := Sl.elem (a_f.up le3) hx;subst hr_x;refine zdy he10 Y Y (hk := Y) (hu := zaa) (hz := zL) Y<|zab Y Y (fun _ hC => (zj (j := 0) hC.sub hc9 Y Y Y zU))<|zfj (v := b_v) Y Y<|zfM Y Y ?_;obtain ⟨y, hy⟩ : ∃ y_, (b)[k]? = some y_ := zdl zD;obtain ⟨b11, o12, _, he14, hc13, hr_y⟩ := Sl.elem (b_f.up le3) hy;subst hr_y;refine zdy he14 Y Y (hk := Y) (hu := zaa) (hz := zL) Y<|zab Y Y (fun _ hC => (zj (j := 0) hC.sub hc13 Y Y Y zU))<|u_neq Y Y Y<|zdU ?_;rintro w15 ⟨h16, s17⟩;have st18 := st4.call0 s17;refine E ?_;refine zV rfl (fun c19 => ?_) (fun c19 => ?_)
  ·refine zm<|zJ Y Y<|M<|zw<|zI<|zi<|zi<|zI<|zi<|zg Tryz.results32 ?_;refine ⟨h16, _, rfl, st18.done, ?_⟩;refine zA ?_;have q := ne_of_get hx hy (by simpa using c19);simp [q]
  refine zB<|zX<|E<|zf<|zbK Y Y zbQ Y<|zy Y Y<|M ?_;have l20 := le3.trans s17.le;refine ⟨⟨k + 1, h16⟩, ⟨rfl, trivial⟩, ?_, ⟨l20, st18, ?_, ?_⟩, ?_⟩
  ·exact zbs
  ·first | omega | (simp; omega)
  ·exact zhN he hx hy (by simpa using c19)
  show a.length - ((k + 1)) < a.length - k;omega
 refine zaX<|zt<|zt<|zaK<|E<|zm<|zJ Y Y<|M<|zw<|zg Tryz.results32 ?_;refine ⟨h2, _, rfl, st4.done, ?_⟩;refine zA ?_;have q := zjw he zD zD;simp [q]
end Go.Pk

namespace Go.Pk
open Go Go.RowKit Go.Proofs
theorem ziC {h : Heap} {w : World} (hs : Sub h w) {t : Text} {t_v0 : Value} (t_f0 : Sl LChapter h t_v0 t.chapters) : Calls Tryz.prog 40 #[.agg #[t_v0]] w (Rets h w (fun h' _ res_ => ∃ u0, res_ = .tuple #[u0, .int .i64 ((if zaM t then 0 else 10))] ∧ Box LText h' (zaM t) t u0)) := by
 refine zM (n := 13) Tryz.func40 Y Y Y<|have st0:=zcf hs;have t_f0_b:=t_f0.le;zm<|zC st0 (cs := [t_v0]) Y Y Y<|fun b1 w2 h3 le4 hc5 st6=>zaj Y Y<|zH Y Y<|M<|zl<|zm<|zp st6.sub hc5 Y zaw zS Y Y<|zk st6 Y Y Y Tryz.call70 Y (c_leaf_Check st6.sub (t := t) (t_f0.up le4))<|fun r7 w8 h9 le10 st11 q12=> ?_;subst q12;refine zH Y Y<|M<|zm<|zy Y Y<|zdo Y Y Y<|M ?_;refine zV rfl (fun c13 => ?_) (fun c13 => ?_)
 ·refine zm<|zy Y Y<|zaj Y Y<|zH Y Y<|M<|zw<|zi<|zaS Tryz.results40 ?_;refine ⟨h9, _, rfl, st11.done, ?_⟩;refine ⟨_, zdz rfl (zaI ?_), Box.nil ?_⟩
  ·simp_all
  simp_all
 refine zB<|E<|zm<|zp st11.sub (hc5.up le10) Y zaw zS Y Y ?_;refine Z rfl rfl (zbN (cs := [t_v0]) (by obtain ⟨_, _, rfl⟩ := Sl.form t_f0; kernel_rfl)) ?_;refine zC st11 (cs := [t_v0]) Y Y Y<|fun b14 w15 h16 le17 hc18 st19=>ziU Y Y<|zH Y Y<|M<|zw<|zaS Tryz.results40 ?_;refine ⟨h16, _, rfl, st19.done, ?_⟩;refine ⟨_, zdz rfl (zaI ?_), Box.some ?_ hc18 ⟨_, rfl, (t_f0.up ((le4.t le10).t le17))⟩⟩
 ·simp_all
 simp_all
theorem zhd {h : Heap} {w : World} (hs : Sub h w) {t_b : Nat} {t : Text} {t_v0 : Value} (t_f0 : Sl LChapter h t_v0 t.chapters) (t_c : Cells h t_b 0 [t_v0]) {p : Place} : Calls Tryz.prog 49 #[.pointer (some ⟨t_b, 0, none⟩), .agg #[.int .i64 p.chapter, .int .i64 p.line, .int .i64 p.word]] w (Rets h w (fun h' _ res_ => ∃ u0, res_ = u0 ∧ Sl LStr h' u0 (((zbg t p).getD [])))) := by
 refine zM (n := 50) Tryz.func49 Y Y Y<|have st0:=zcf hs;have t_f0_b:=t_f0.le;zm<|zC st0 (cs := [.int .i64 (p.chapter), .int .i64 (p.line), .int .i64 (p.word)]) Y Y Y<|fun b1 w2 h3 le4 hc5 st6=>zcO Y Y<|M<|zl<|zl ?_
 rcases Bool.eq_false_or_eq_true ((!(zcJ (([(p.chapter)])) (0) (((t.chapters.length : Int) - 1))))) with g7 | g7
 ·have g7_r := g7;refine zbm (er := ([], [], [], [], 0)) (dsts := [5, 6, 7, 8, 9, 10, 11, 12, 13, 14, 15, 16, 17, 18, 19, 20, 21, 22, 23, 24, 25, 26, 27, 28, 29, 30, 31, 32, 33, 34, 35]) st6 Tryz.mixed<|ze 0 [] Y zh zh Y Y (fun hD wD τD hL hS hO  => (zgk Y))<|ze 1 [0] Y zh zh Y Y (fun hD wD τD hL hS hO _ _ => (zcS Y))<|ze 2 [0] Y zh zh Y Y (fun hD wD τD hL hS hO _ _ => (zn Y zeo Y zS Y))<|ze 3 [0] Y zh zh Y Y (fun hD wD τD hL hS hO _ _ => (zn Y zaJ Y zbh Y))<|ze 4 [0] Y zh zh Y Y (fun hD wD τD hL hS hO _ _ => (zj (j := 0) (hL.sub hS) (t_c.up le4) Y Y Y zbD))<|ze 5 [0] Y zh zh Y Y (fun hD wD τD hL hS hO _ _ => (zeu (t_f0.up le4) Y zao))<|ze 6 [0] Y zh zh Y Y (fun hD wD τD hL hS hO _ _ => (zhm Y Y zbQ))<|ze 7 [] Y zh zh Y Y (fun hD wD τD hL hS hO  => (zn Y zah Y zL Y))<|ze 8 [0] Y zh zh Y Y (fun hD wD τD hL hS hO _ _ => (zj (j := 0) (hL.sub hS) hc5 Y Y Y zU)) ?_;refine zad 9 (.res (fun h' res_ => Sl LInt h' res_ ([(p.chapter)])) (fun _ _ _ hl f => f.up hl)) [0] rfl zh zh ?_ ?_
  ·intro hD wD τD hL hS hO _ _;have st8 := St.start hS;refine zae (L := LInt) (xs := [(p.chapter)]) (cs := [.int .i64 (p.chapter)]) st8 (Enc.cons (L := LInt) (vs := [.int .i64 (p.chapter)]) (x := (p.chapter)) (h := hD) (Y) Enc.nil) Y Y Y zaa Tryz.info3 Y Y Y zh<|fun v9 w10 h13 le14 f11 st12=> ?_;exact zb ⟨_, _, rfl, st12, _, rfl, f11⟩
  refine zad 10 (.det (.bool (zcJ (([(p.chapter)])) (0) (((t.chapters.length : Int) - 1))))) [3, 0] rfl zh zh ?_ ?_
  ·intro hD wD τD hL hS hO _ _ gv9_0 gf9_0;have st15 := St.start hS;refine zk st15 Y Y Y zdM Y (zdg st15.sub _ _ gf9_0)<|fun r16 w17 h18 le19 st20 q21=> ?_;subst q21;exact zb ⟨_, _, rfl, st20, (), rfl, trivial⟩
  refine ze 11 [0] Y zh zh Y Y (fun hD wD τD hL hS hO _ _ => (Run.lit (zfR Y) g7_r))<|ze 12 [0, 1] Y zh zh Y Y (fun hD wD τD hL hS hO _ _ _ _ => (zcZ Y))<|zaG 13 [0] Y zh zh Y Y Y Y (fun hD wD τD hL hS hO _ _ => Y)<|zaG 14 [0, 1] Y zh zh Y Y Y Y (fun hD wD τD hL hS hO _ _ _ _ => Y)<|zaG 15 [0, 2] Y zh zh Y Y Y Y (fun hD wD τD hL hS hO _ _ _ _ => Y)<|zaG 16 [0, 3] Y zh zh Y Y Y Y (fun hD wD τD hL hS hO _ _ _ _ => Y)<|zaG 17 [0, 4] Y zh zh Y Y Y Y (fun hD wD τD hL hS hO _ _ _ _ => Y)<|zaG 18 [5] Y zh zh Y Y Y Y (fun hD wD τD hL hS hO _ _ => Y)<|zaG 19 [0, 6] Y zh zh Y Y Y Y (fun hD wD τD hL hS hO _ _ _ _ => Y)<|zaG 20 [2, 0, 7] Y zh zh Y Y Y Y (fun hD wD τD hL hS hO _ _ _ _ _ _ => Y)<|zaG 21 [0, 8] Y zh zh Y Y Y Y (fun hD wD τD hL hS hO _ _ _ _ => Y)<|zaG 22 [0, 9] Y zh zh Y Y Y Y (fun hD wD τD hL hS hO _ _ _ _ => Y)<|zaG 23 [0, 10] Y zh zh Y Y Y Y (fun hD wD τD hL hS hO _ _ _ _ => Y)<|zaG 24 [0, 11] Y zh zh Y Y Y Y (fun hD wD τD hL hS hO _ _ _ _ => Y)<|zaG 25 [12] Y zh zh Y Y Y Y (fun hD wD τD hL hS hO _ _ => Y)<|zaG 26 [0, 13] Y zh zh Y Y Y Y (fun hD wD τD hL hS hO _ _ _ _ => Y)<|zaG 27 [0, 14] Y zh zh Y Y Y Y (fun hD wD τD hL hS hO _ _ _ _ => Y)<|zaG 28 [3, 0, 15] Y zh zh Y Y Y Y (fun hD wD τD hL hS hO _ _ _ _ _ _ => Y)<|zaG 29 [0, 16] Y zh zh Y Y Y Y (fun hD wD τD hL hS hO _ _ _ _ => Y)<|ze 30 [17, 0] Y zh zh Y Y (fun hD wD τD hL hS hO _ _ _ _ => (zcw (v := (.bool _)) Y Y))<|zcd Y Y Y Y Y Y ⟨zh, Y, zh, Y, zh, Y, Y, zh, zcM⟩<|fun hE22 w23 _ le24 st25 _ _ _ _ _ _ _ _ _ _ _ _ _ _ _ _ _ _ gv9_0x26 gf9_0x26 _ _ _ _ _ _ _ _ _ _ _ _ _ _ _ _ _ _ _ _ _ _ _ _ _ _ _ _ _ _ _ _ _ _ _ _ _ _ _ _ _ _=>AllDeps.fin Y<|E ?_;refine zQ rfl (fun c27 => ?_) (fun c27 => ?_)
  ·refine zm<|zcO Y Y<|M<|zw<|zi<|zg Tryz.results49 ?_;refine ⟨hE22, _, rfl, st25.done, ?_⟩;refine ⟨_, rfl, Sl.to (Sl.nil _ _) ?_⟩;have q : zbg t p = none := line_none1 (by
    have q := g7;simp [zcJ, inB] at q;omega)
   simp [q]
  cases c27
 have g7_r := g7;have q1 : 0 ≤ p.chapter ∧ p.chapter < t.chapters.length := by
  have q := g7;simp [zcJ, inB] at q;omega
 obtain ⟨c, hc⟩ : ∃ y_, (t.chapters)[p.chapter.toNat]? = some y_ := zdl zD;obtain ⟨b28, o29, _, he31, hc30, hr_c⟩ := Sl.elem (t_f0.up le4) hc;obtain ⟨v32, rfl, f33⟩ := hr_c;have f33_b := f33.le;refine zbm (er := ([], [], [], [], 0)) (dsts := [5, 6, 7, 8, 9, 10, 11, 12, 13, 14, 15, 16, 17, 18, 19, 20, 21, 22, 23, 24, 25, 26, 27, 28, 29, 30, 31, 32, 33, 34, 35]) st6 Tryz.mixed<|ze 0 [] Y zh zh Y Y (fun hD wD τD hL hS hO  => (zgk Y))<|ze 1 [0] Y zh zh Y Y (fun hD wD τD hL hS hO _ _ => (zcS Y))<|ze 2 [0] Y zh zh Y Y (fun hD wD τD hL hS hO _ _ => (zn Y zeo Y zS Y))<|ze 3 [0] Y zh zh Y Y (fun hD wD τD hL hS hO _ _ => (zn Y zaJ Y zbh Y))<|ze 4 [0] Y zh zh Y Y (fun hD wD τD hL hS hO _ _ => (zj (j := 0) (hL.sub hS) (t_c.up le4) Y Y Y zbD))<|ze 5 [0] Y zh zh Y Y (fun hD wD τD hL hS hO _ _ => (zeu (t_f0.up le4) Y zao))<|ze 6 [0] Y zh zh Y Y (fun hD wD τD hL hS hO _ _ => (zhm Y Y zbQ))<|ze 7 [] Y zh zh Y Y (fun hD wD τD hL hS hO  => (zn Y zah Y zL Y))<|ze 8 [0] Y zh zh Y Y (fun hD wD τD hL hS hO _ _ => (zj (j := 0) (hL.sub hS) hc5 Y Y Y zU)) ?_;refine zad 9 (.res (fun h' res_ => Sl LInt h' res_ ([(p.chapter)])) (fun _ _ _ hl f => f.up hl)) [0] rfl zh zh ?_ ?_
 ·intro hD wD τD hL hS hO _ _;have st34 := St.start hS;refine zae (L := LInt) (xs := [(p.chapter)]) (cs := [.int .i64 (p.chapter)]) st34 (Enc.cons (L := LInt) (vs := [.int .i64 (p.chapter)]) (x := (p.chapter)) (h := hD) (Y) Enc.nil) Y Y Y zaa Tryz.info3 Y Y Y zh<|fun v35 w36 h39 le40 f37 st38=> ?_;exact zb ⟨_, _, rfl, st38, _, rfl, f37⟩
 refine zad 10 (.det (.bool (zcJ (([(p.chapter)])) (0) (((t.chapters.length : Int) - 1))))) [3, 0] rfl zh zh ?_ ?_
 ·intro hD wD τD hL hS hO _ _ gv9_0 gf9_0;have st41 := St.start hS;refine zk st41 Y Y Y zdM Y (zdg st41.sub _ _ gf9_0)<|fun r42 w43 h44 le45 st46 q47=> ?_;subst q47;exact zb ⟨_, _, rfl, st46, (), rfl, trivial⟩
 refine ze 11 [0] Y zh zh Y Y (fun hD wD τD hL hS hO _ _ => (Run.lit (zfR Y) g7_r))<|ze 12 [0, 1] Y zh zh Y Y (fun hD wD τD hL hS hO _ _ _ _ => (zcZ Y))<|zaq 13 [0] Y zh zh Y Y Y (fun hD wD τD hL hS hO _ _ => ⟨rfl, (zgk Y)⟩)<|zaq 14 [0, 1] Y zh zh Y Y Y (fun hD wD τD hL hS hO _ _ _ _ => ⟨rfl, (zcS Y)⟩)<|zaq 15 [0, 2] Y zh zh Y Y Y (fun hD wD τD hL hS hO _ _ _ _ => ⟨rfl, (zn Y zeo Y zS Y)⟩)<|zaq 16 [0, 3] Y zh zh Y Y Y (fun hD wD τD hL hS hO _ _ _ _ => ⟨rfl, (zn Y zaJ Y zbh Y)⟩)<|zaq 17 [0, 4] Y zh zh Y Y Y (fun hD wD τD hL hS hO _ _ _ _ => ⟨rfl, (zj (j := 0) (hL.sub hS) (t_c.up le4) Y Y Y zbD)⟩)<|zaq 18 [5] Y zh zh Y Y Y (fun hD wD τD hL hS hO _ _ => ⟨rfl, (zn Y zah Y zL Y)⟩)<|zaq 19 [0, 6] Y zh zh Y Y Y (fun hD wD τD hL hS hO _ _ _ _ => ⟨rfl, (zj (j := 0) (hL.sub hS) hc5 Y Y Y zU)⟩) ?_;refine zaq 20 [2, 0, 7] rfl zh zh rfl rfl rfl (fun hD wD τD hL hS hO _ _ _ _ _ _ => ⟨rfl, (zaO he31 rfl rfl (hk := (show _ = ((p.chapter.toNat : Nat) : Int) by omega)) (hu := zao) (hz := zaU))⟩) ?_;refine zaq 21 [0, 8] Y zh zh Y Y Y (fun hD wD τD hL hS hO _ _ _ _ => ⟨rfl, (zn Y zav Y zbj Y)⟩)<|zaq 22 [0, 9] Y zh zh Y Y Y (fun hD wD τD hL hS hO _ _ _ _ => ⟨rfl, (zj (j := 1) (hL.sub hS) hc30 Y Y Y zbJ)⟩)<|zaq 23 [0, 10] Y zh zh Y Y Y (fun hD wD τD hL hS hO _ _ _ _ => ⟨rfl, (zeu f33 Y zas)⟩)<|zaq 24 [0, 11] Y zh zh Y Y Y (fun hD wD τD hL hS hO _ _ _ _ => ⟨rfl, (zhm Y Y zbQ)⟩)<|zaq 25 [12] Y zh zh Y Y Y (fun hD wD τD hL hS hO _ _ => ⟨rfl, (zn Y zah Y zL Y)⟩)<|zaq 26 [0, 13] Y zh zh Y Y Y (fun hD wD τD hL hS hO _ _ _ _ => ⟨rfl, (zj (j := 1) (hL.sub hS) hc5 Y Y Y zU)⟩) ?_;refine zad 27 (.res (fun h' res_ => Sl LInt h' res_ ([(p.line)])) (fun _ _ _ hl f => f.up hl)) [0, 14] rfl zh zh ?_ ?_
 ·intro hD wD τD hL hS hO _ _ _ _;have st48 := St.start hS;refine U Y Y Y<|zae (L := LInt) (xs := [(p.line)]) (cs := [.int .i64 (p.line)]) st48 (Enc.cons (L := LInt) (vs := [.int .i64 (p.line)]) (x := (p.line)) (h := hD) (Y) Enc.nil) Y Y Y zaa Tryz.info3 Y Y Y zh<|fun v49 w50 h53 le54 f51 st52=> ?_;exact zb ⟨_, _, rfl, st52, _, rfl, f51⟩
 refine zad 28 (.det (.bool (zcJ (([(p.line)])) (0) (((c.lines.length : Int) - 1))))) [3, 0, 15] rfl zh zh ?_ ?_
 ·intro hD wD τD hL hS hO _ _ gv27_0 gf27_0 _ _;have st55 := St.start hS;refine U Y Y Y<|zk st55 Y Y Y zdM Y (zdg st55.sub _ _ gf27_0)<|fun r56 w57 h58 le59 st60 q61=> ?_;subst q61;exact zb ⟨_, _, rfl, st60, (), rfl, trivial⟩
 refine zaq 29 [0, 16] Y zh zh Y Y Y (fun hD wD τD hL hS hO _ _ _ _ => ⟨rfl, (zfR Y)⟩)<|ze 30 [17, 0] Y zh zh Y Y (fun hD wD τD hL hS hO _ _ _ _ => (zdI (v := (.bool _)) Y Y))<|zcd Y Y Y Y Y Y ⟨zh, Y, zh, Y, zh, Y, Y, zh, zcM⟩<|fun hE62 w63 _ le64 st65 _ _ _ _ _ _ _ _ _ _ _ _ _ _ _ _ _ _ gv9_0x66 gf9_0x66 _ _ _ _ _ _ _ _ _ _ _ _ _ _ _ _ _ _ _ _ _ _ _ _ _ _ _ _ _ _ _ _ _ _ gv27_0x66 gf27_0x66 _ _ _ _ _ _=>AllDeps.fin Y<|E ?_;refine zQ rfl (fun c67 => ?_) (fun c67 => ?_)
 ·refine zm<|zcO Y Y<|M<|zw<|zi<|zg Tryz.results49 ?_;refine ⟨hE62, _, rfl, st65.done, ?_⟩;refine ⟨_, rfl, Sl.to (Sl.nil _ _) ?_⟩;have q : zbg t p = none := line_none2 hc (by
   have q := c67;simp [zcJ, inB] at q;omega)
  simp [q]
 refine zB<|E<|zl ?_;have q1 : 0 ≤ p.chapter ∧ p.chapter < t.chapters.length ∧ 0 ≤ p.line ∧ p.line < c.lines.length := by
  have q := g7;have q0 := c67;simp [zcJ, inB] at q q0;omega
 refine zdE Tryz.mixed zh (Cls hE62 _) (Cls.drew st65)<|u_mvP Y Y<|zab Y Y (fun _ _ => (zcS Y))<|zaY Y zeo Y zS Y Y<|zaY Y zaJ Y zbh Y Y<|have l68:=le4.t le64;zab Y Y (fun _ hC => (zj (j := 0) hC.sub (t_c.up l68) Y Y Y zbD))<|zaY Y zah Y zL Y Y<|zab Y Y (fun _ hC => (zj (j := 0) hC.sub (hc5.up le64) Y Y Y zU)) ?_;refine zab rfl rfl (fun _ _ => (zaO he31 rfl rfl (hk := (show _ = ((p.chapter.toNat : Nat) : Int) by omega)) (hu := zao) (hz := zaU))) ?_;refine zaY Y zav Y zbj Y Y<|zab Y Y (fun _ hC => (zj (j := 1) hC.sub (hc30.up le64) Y Y Y zbJ))<|zaY Y zah Y zL Y Y<|zab Y Y (fun _ hC => (zj (j := 1) hC.sub (hc5.up le64) Y Y Y zU)) ?_;obtain ⟨ln, hln⟩ : ∃ y_, (c.lines)[p.line.toNat]? = some y_ := zdl zD;obtain ⟨b69, o70, _, he72, hc71, hr_ln⟩ := Sl.elem (f33.up le64) hln;obtain ⟨v73, rfl, f74⟩ := hr_ln;have f74_b := f74.le;refine zab rfl rfl (fun _ _ => (zaO he72 rfl rfl (hk := (show _ = ((p.line.toNat : Nat) : Int) by omega)) (hu := zas) (hz := zcV))) ?_;refine zab Y Y (fun _ hC => (zj (j := 0) hC.sub hc71 Y Y Y zdh))<|u_assign (v := v73) Y Y<|zdU ?_;rintro w75 ⟨h76, s77⟩;have st78 := st65.call0 s77;refine E<|zw<|zg Tryz.results49 ?_;refine ⟨h76, _, rfl, st78.done, ?_⟩;refine ⟨_, rfl, Sl.to (f74.up s77.le) ?_⟩;rw [line_some hc q1.1 hln q1.2.2.1]; rfl
theorem c_leaf_book_has {h : Heap} {w : World} (hs : Sub h w) {t_b : Nat} {t : Text} {t_v0 : Value} (t_f0 : Sl LChapter h t_v0 t.chapters) (t_c : Cells h t_b 0 [t_v0]) {p : Place} : Calls Tryz.prog 77 #[.pointer (some ⟨t_b, 0, none⟩), .agg #[.int .i64 p.chapter, .int .i64 p.line, .int .i64 p.word]] w (Rets h w (fun _ _ res_ => res_ = .bool (zbH t p))) := by
 refine zM (n := 14) Tryz.func77 Y Y Y<|have st0:=zcf hs;have t_f0_b:=t_f0.le;zm<|zC st0 (cs := [.int .i64 (p.chapter), .int .i64 (p.line), .int .i64 (p.word)]) Y Y Y<|fun b1 w2 h3 le4 hc5 st6=>zJ Y Y<|M<|zl<|have qb:=line_le t_f0 p;zbm (er := ([], [], [], [], 0)) (dsts := [5, 6, 7, 8, 9, 10, 11, 12, 13, 4]) st6 Tryz.mixed<|ze 0 [] Y zh zh Y Y (fun hD wD τD hL hS hO  => (zgk Y))<|ze 1 [] Y zh zh Y Y (fun hD wD τD hL hS hO  => (zW (hL.sub hS) hc5 Y zap zz Y)) ?_;refine zad 2 (.res (fun h' res_ => Sl LStr h' res_ (((zbg (t) (p)).getD []))) (fun _ _ _ hl f => f.up hl)) [1, 0] rfl zh zh ?_ ?_
 ·intro hD wD τD hL hS hO _ _ _ _;have st7 := St.start hS;refine zk st7 Y Y Y Tryz.call49 Y (zhd st7.sub (t := t) (t_f0.up (le4.trans hL)) (t_c.up (le4.trans hL)) (p := p))<|fun r8 w9 h10 le11 st12 q13=> ?_;obtain ⟨v14, e16, f15⟩ := q13;rw [← e16] at f15;have f15_b := f15.le;exact zb ⟨_, _, rfl, st12, _, rfl, f15⟩
 refine zad 3 (.det (.int .i64 ((((zbg (t) (p)).getD [])).length : Int))) [0] rfl zh zh ?_ ?_
 ·intro hD wD τD hL hS hO gv2_0 gf2_0;have st17 := St.start hS;refine zbr gf2_0 Y zr Y ?_;exact zb ⟨_, _, rfl, st17, (), rfl, trivial⟩
 refine ze 4 [0] Y zh zh Y Y (fun hD wD τD hL hS hO _ _ => (zhm Y Y zbQ))<|ze 5 [] Y zh zh Y Y (fun hD wD τD hL hS hO  => (zn Y zah Y zL Y))<|ze 6 [0] Y zh zh Y Y (fun hD wD τD hL hS hO _ _ => (zj (j := 2) (hL.sub hS) hc5 Y Y Y zU)) ?_;refine zad 7 (.res (fun h' res_ => Sl LInt h' res_ ([(p.word)])) (fun _ _ _ hl f => f.up hl)) [0] rfl zh zh ?_ ?_
 ·intro hD wD τD hL hS hO _ _;have st18 := St.start hS;refine zae (L := LInt) (xs := [(p.word)]) (cs := [.int .i64 (p.word)]) st18 (Enc.cons (L := LInt) (vs := [.int .i64 (p.word)]) (x := (p.word)) (h := hD) (Y) Enc.nil) Y Y Y zaa Tryz.info3 Y Y Y zh<|fun v19 w20 h23 le24 f21 st22=> ?_;exact zb ⟨_, _, rfl, st22, _, rfl, f21⟩
 refine zad 8 (.det (.bool (zcJ (([(p.word)])) (0) ((((((zbg (t) (p)).getD [])).length : Int) - 1))))) [3, 0, 5] rfl zh zh ?_ ?_
 ·intro hD wD τD hL hS hO _ _ gv7_0 gf7_0 gv2_0 gf2_0;have st25 := St.start hS;refine zk st25 Y Y Y zdM Y (zdg st25.sub _ _ gf7_0)<|fun r26 w27 h28 le29 st30 q31=> ?_;subst q31;exact zb ⟨_, _, rfl, st30, (), rfl, trivial⟩
 refine ze 9 [8, 7, 6, 5, 4, 3, 2, 1, 0] Y zh zh Y Y (fun hD wD τD hL hS hO _ _ _ _ gv2_0 gf2_0 _ _ _ _ _ _ _ _ gv7_0 gf7_0 _ _ => (zdi Y))<|zcd Y Y Y Y Y Y ⟨zh, Y, zh, Y, zh, Y, Y, zh, zcM⟩<|fun hE32 w33 _ le34 st35 _ _ _ _ gv2_0x36 gf2_0x36 _ _ _ _ _ _ _ _ gv7_0x36 gf7_0x36 _ _ _ _=>AllDeps.fin Y<|E<|zw<|zg Tryz.results77 ?_;refine ⟨hE32, _, rfl, st35.done, ?_⟩;refine zA ?_;rw [place_eq];cases hq : zbg t p with
 | none => simp [zcJ, inB]; omega
 | some l => simp [zcJ]
theorem c_leaf_placed {h : Heap} {w : World} (hs : Sub h w) {t : Text} {t_v0 : Value} (t_f0 : Sl LChapter h t_v0 t.chapters) {p : Place} : Calls Tryz.prog 48 #[.agg #[t_v0], .agg #[.int .i64 p.chapter, .int .i64 p.line, .int .i64 p.word]] w (Rets h w (fun h' _ res_ => ∃ u0, res_ = .tuple #[u0, .int .i64 ((if zaM t && zbH t p then 0 else if zaM t then 12 else 10))] ∧ Box LText h' (zaM t && zbH t p) t u0)) := by
 refine zM (n := 21) Tryz.func48 Y Y Y<|have st0:=zcf hs;have t_f0_b:=t_f0.le;zm<|zC st0 (cs := [t_v0]) Y Y Y<|fun b1 w2 h3 le4 hc5 st6=>zC st6 (cs := [.int .i64 (p.chapter), .int .i64 (p.line), .int .i64 (p.word)]) Y Y Y<|fun b7 w8 h9 le10 hc11 st12=>zaj Y Y<|zH Y Y<|M<|zm<|zp st12.sub (hc5.up le10) Y zaw zS Y Y<|have l13:=le4.t le10;zk st12 Y Y Y Tryz.call40 Y (ziC st12.sub (t := t) (t_f0.up l13))<|fun r14 w15 h16 le17 st18 q19=> ?_
 rcases Bool.eq_false_or_eq_true (zaM (t)) with hb20 | hb20
 ·simp only [hb20, if_true, if_false, Bool.false_eq_true, reduceIte] at q19;obtain ⟨v21, rfl, f22⟩ := q19;obtain ⟨b23, vs24, rfl, hc25, hr26⟩ := f22;obtain ⟨v27, rfl, f28⟩ := hr26;have f28_b := f28.le;refine zcD Y Y<|zG (v := (.pointer (some _))) Y Y Y<|zG (v := (.int _ _)) Y Y Y<|ziU Y Y<|zH Y Y<|M<|zl<|zm<|zy Y Y<|zdo Y Y Y<|M ?_;refine zQ rfl (fun c29 => ?_) (fun c29 => ?_)
  ·exact absurd c29 (by decide)
  refine zB<|E<|zl<|zm<|ziq Y Y<|zp st18.sub (hc11.up le17) Y zap zz Y Y<|zk st18 Y Y Y Tryz.call77 Y (c_leaf_book_has st18.sub (t := (t)) f28 hc25 (p := p))<|fun r30 w31 h32 le33 st34 q35=> ?_;subst q35;refine zce Y Y<|M ?_;refine zQ rfl (fun c36 => ?_) (fun c36 => ?_)
  ·refine zm<|zaj Y Y<|zH Y Y<|M<|zw<|zi<|zaS Tryz.results48 ?_;refine ⟨h32, _, rfl, st34.done, ?_⟩;refine ⟨_, zdz rfl (zaI ?_), Box.nil ?_⟩
   ·simp_all
   simp_all
  refine zB<|E<|zm<|ziq Y Y<|ziU Y Y<|zH Y Y<|M<|zw<|zaS Tryz.results48 ?_;refine ⟨h32, _, rfl, st34.done, ?_⟩;refine ⟨_, zdz rfl (zaI ?_), Box.some ?_ (hc25.up le33) ⟨_, rfl, (f28.up le33)⟩⟩
  ·simp_all
  simp_all
 simp only [hb20, if_true, if_false, Bool.false_eq_true, reduceIte] at q19;obtain ⟨v37, rfl, f38⟩ := q19;subst f38;refine zcD Y Y<|zG (v := (.pointer none)) Y Y Y<|zG (v := (.int _ _)) Y Y Y<|zaj Y Y<|zH Y Y<|M<|zl<|zm<|zy Y Y<|zdo Y Y Y<|M ?_;refine zQ rfl (fun c39 => ?_) (fun c39 => ?_)
 ·refine zm<|zy Y Y<|zaj Y Y<|zH Y Y<|M<|zw<|zi<|zaS Tryz.results48 ?_;refine ⟨h16, _, rfl, st18.done, ?_⟩;refine ⟨_, zdz rfl (zaI ?_), Box.nil ?_⟩
  ·simp_all
  simp_all
 exact absurd c39 (by decide)
theorem zhe {h : Heap} {w : World} (hs : Sub h w) {t : Text} {t_v0 : Value} (t_f0 : Sl LChapter h t_v0 t.chapters) {p : Place} : Calls Tryz.prog 12 #[.agg #[t_v0], .agg #[.int .i64 p.chapter, .int .i64 p.line, .int .i64 p.word]] w (Rets h w (fun _ _ res_ => res_ = .tuple #[zx ((if zaM t then (zgS t p).getD [] else [])), .int .i64 ((if zaM t && zbH t p then 0 else if zaM t then 12 else 10))])) := by
 refine zM (n := 24) Tryz.func12 Y Y Y<|have st0:=zcf hs;have t_f0_b:=t_f0.le;zm<|zC st0 (cs := [t_v0]) Y Y Y<|fun b1 w2 h3 le4 hc5 st6=>zC st6 (cs := [.int .i64 (p.chapter), .int .i64 (p.line), .int .i64 (p.word)]) Y Y Y<|fun b7 w8 h9 le10 hc11 st12=>zft Y Y<|zH Y Y<|M<|zm<|zp st12.sub (hc5.up le10) Y zaw zS Y Y<|zp st12.sub hc11 Y zap zz Y Y<|have l13:=le4.t le10;zk st12 Y Y Y Tryz.call48 Y (c_leaf_placed st12.sub (t := t) (t_f0.up l13) (p := p))<|fun r14 w15 h16 le17 st18 q19=> ?_
 rcases Bool.eq_false_or_eq_true (zaM (t) && zbH (t) (p)) with hb20 | hb20
 ·simp only [hb20, if_true, if_false, Bool.false_eq_true, reduceIte] at q19;obtain ⟨v21, rfl, f22⟩ := q19;obtain ⟨b23, vs24, rfl, hc25, hr26⟩ := f22;obtain ⟨v27, rfl, f28⟩ := hr26;have f28_b := f28.le;refine zcD Y Y<|zG (v := (.pointer (some _))) Y Y Y<|zG (v := (.int _ _)) Y Y Y<|ziU Y Y<|zH Y Y<|M<|zl<|zm<|zy Y Y<|zdo Y Y Y<|M ?_;refine zQ rfl (fun c29 => ?_) (fun c29 => ?_)
  ·exact absurd c29 (by decide)
  refine zB<|E<|zl ?_;have q1 : zbH t p = true := by simp_all
  have q2 := place_eq t p;have q3 : 0 ≤ p.word ∧ p.word < (((zbg t p).getD []).length : Int) := by
   rw [q1] at q2;simp [inB] at q2;omega
  obtain ⟨wd, hwd⟩ : ∃ y_, ((((zbg ((t)) (p)).getD [])))[p.word.toNat]? = some y_ := zdl zD;refine zbm (er := ([], [], [], [], 0)) (dsts := [17, 18, 19, 20, 21, 22, 23, 4, 5]) st18 Tryz.mixed<|ze 0 [] Y zh zh Y Y (fun hD wD τD hL hS hO  => (zgk Y))<|ze 1 [] Y zh zh Y Y (fun hD wD τD hL hS hO  => (zW (hL.sub hS) (hc11.up le17) Y zap zz Y)) ?_;refine zad 2 (.res (fun h' res_ => Sl LStr h' res_ (((zbg ((t)) (p)).getD []))) (fun _ _ _ hl f => f.up hl)) [1, 0] rfl zh zh ?_ ?_
  ·intro hD wD τD hL hS hO _ _ _ _;have st30 := St.start hS;refine zk st30 Y Y Y Tryz.call49 Y (zhd st30.sub (t := (t)) (f28.up hL) (hc25.up hL) (p := p))<|fun r31 w32 h33 le34 st35 q36=> ?_;obtain ⟨v37, e39, f38⟩ := q36;rw [← e39] at f38;have f38_b := f38.le;exact zb ⟨_, _, rfl, st35, _, rfl, f38⟩
  refine ze 3 [] Y zh zh Y Y (fun hD wD τD hL hS hO  => (zn Y zah Y zL Y))<|ze 4 [0] Y zh zh Y Y (fun hD wD τD hL hS hO _ _ => (zj (j := 2) (hL.sub hS) (hc11.up le17) Y Y Y zU)) ?_;refine zad 5 (.res (fun h' res_ => ∃ b o, res_ = .pointer (some ⟨b, o, none⟩) ∧ Cells h' b o [zx wd]) (by rintro _ _ _ hl ⟨b, o, e, c⟩; exact ⟨b, o, e, c.up hl⟩)) [2, 0] rfl zh zh ?_ ?_
  ·intro hD wD τD hL hS hO gv2_0 gf2_0 _ _;have st40 := St.start hS;obtain ⟨b_, o_, _, he_, hc_, hr_⟩ := Sl.elem gf2_0 hwd;obtain ⟨rfl, ls41⟩ := hr_;simp only [big] at ls41;refine Z rfl rfl (zaO he_ rfl rfl (hk := (show _ = ((p.word.toNat : Nat) : Int) by omega)) (hu := zr) (hz := zY)) ?_;exact zb ⟨_, _, rfl, st40, _, rfl, _, _, rfl, hc_⟩
  refine zad 6 (.det (zx wd)) [0] rfl zh zh ?_ ?_
  ·intro hD wD τD hL hS hO gv5_ gf5_;obtain ⟨gb5, go5, rfl, gc5⟩ := gf5_;have st42 := St.start hS;refine zd (j := 0) hS gc5 Y Y Y zau Y ?_;exact zb ⟨_, _, rfl, st42, (), rfl, trivial⟩
  refine ze 7 [6, 5, 4, 3, 2, 1, 0] Y zh zh Y Y (fun hD wD τD hL hS hO _ _ _ _ gv2_0 gf2_0 _ _ _ _ gv5_ gf5_ _ _ => (r_asS Y))<|ze 8 [7, 6, 5, 4, 3, 2, 1, 0] Y zh zh Y Y (fun hD wD τD hL hS hO _ _ _ _ gv2_0 gf2_0 _ _ _ _ gv5_ gf5_ _ _ _ _ => (zct Y))<|zcd Y Y Y Y Y Y ⟨zh, Y, zh, Y, zh, Y, Y, zh, zcM⟩<|fun hE43 w44 _ le45 st46 _ _ _ _ gv2_0x47 gf2_0x47 _ _ _ _ gv5_x47 gf5_x47 _ _ _ _ _ _=> ?_;obtain ⟨gb5x47, go5x47, rfl, gc5x47⟩ := gf5_x47;refine AllDeps.fin Y<|E<|zw<|zaS Tryz.results12 ?_;refine ⟨hE43, _, rfl, st46.done, ?_⟩;refine zdz (ziI ?_) (zaI ?_)
  all_goals have qq : zaM t = true ∧ zbH t p = true := by simp_all
  ·simp [qq.1, word_some qq.2 hwd]
  simp [qq.1, qq.2]
 simp only [hb20, if_true, if_false, Bool.false_eq_true, reduceIte] at q19;obtain ⟨v48, rfl, f49⟩ := q19;subst f49;refine zcD Y Y<|zG (v := (.pointer none)) Y Y Y<|zG (v := (.int _ _)) Y Y Y<|zaj Y Y<|zH Y Y<|M<|zl<|zm<|zy Y Y<|zdo Y Y Y<|M ?_;refine zV rfl (fun c50 => ?_) (fun c50 => ?_)
 ·refine zm<|zy Y Y<|zft Y Y<|zH Y Y<|M<|zw<|zi<|zaS Tryz.results12 ?_;refine ⟨h16, _, rfl, st18.done, ?_⟩;refine zdz (ziI ?_) (zaI ?_)
  all_goals have qq : zaM t = true → zbH t p = false := by simp_all
  ·cases q0 : zaM t
   ·rfl
   ·simp [word_none (qq q0)]
  cases q0 : zaM t
  ·rfl
  simp [qq q0]
 exfalso;revert c50;split <;> simp
end Go.Pk

namespace Go.Pk
open Go Go.RowKit Go.Proofs
theorem c_strings_indexFunc {s : Str} (hlen : s.length ≤ 281474976710656) {g : FuncId} {caps : List Value} (p : Int → Bool) (hp : ∀ x : Int, 128 ≤ x → p x = true)
  (hf : ∀ (x : Int) h w, Sub h w → Calls Tryz.prog g (.int .i32 x :: caps).toArray w (Rets h w fun _ _ r => r = .bool (p x)))
  (hg : ∀ a w, (callFunc g a).run Tryz.prog w = .ok (.enter g a) w) {h : Heap} {w : World} (hs : Sub h w) :
  Calls Tryz.prog 165 #[zx s, .func (.func g) #[] caps.toArray, .bool true] w (Rets h w fun _ _ r => ∃ k : Int, r = .int .i64 k ∧ (0 ≤ k ↔ (s.any fun c => p (c.toNat : Int)) = true)) := by
 refine zM (n := 21) Tryz.func165 Y Y Y<|have st0:=zcf hs;zm<|zH Y Y<|M<|zl<|zm<|zcE Y Y<|OpsL.rangeS st0 Y zaz Y<|fun b w1 st1=>M<|zN ?_;refine zaR ([7, 8] ++ zdA 11 10 ++ [6]) (G := Nat × Heap) (fun ⟨k, _⟩ => []) (fun ⟨k, h'⟩ w' => Le h h' ∧ St h w h' w' [[(b, .stringIter ⟨s.toArray⟩ k)]] ∧ k ≤ s.length ∧ ∀ j c, j < k → s[j]? = some c → p (c.toNat : Int) = false) (fun ⟨k, _⟩ => s.length - k) ⟨0, h⟩ trivial ⟨Le.refl _, st1, by omega, by intros; omega⟩ ?_;rintro ⟨k, h2⟩ _ w2 ⟨le2, st2, hk, hall⟩
 rcases Nat.lt_or_ge k s.length with hlt | hge
 ·obtain ⟨c, hc⟩ : ∃ c, s[k]? = some c := ⟨_, List.getElem?_eq_getElem hlt⟩;refine zm<|OpsL.nextS st2 (k := 0) Y Y hc Y<|fun w3 st3=> ?_;generalize hR : Utf8.decode ⟨s.toArray⟩ k = R at st3;refine zG (v := .bool _) Y Y Y<|M<|zl ?_;refine zQ rfl (fun c1 => ?_) (fun c1 => ?_)
  ·refine zB ?_;refine E<|zN<|zm<|zG (v := .int _ _) Y Y Y<|zG (v := .int _ _) Y Y Y<|zH Y Y<|zH Y Y<|M<|zm<|zhA Y Y<|zy Y Y ?_;refine zaA rfl rfl (zbW (fs := []) (cs := caps) rfl rfl hg rfl) ((hf (R.1 : Int) h2 w3 st3.sub).mono ?_);rintro e w4 ⟨h4, r4, rfl, s4, rfl⟩;refine ⟨_, rfl, ?_⟩;have st4 := st3.call0 s4;refine zag Y Y<|Z Y Y (r_beql Y Y zal)<|M ?_;refine zQ rfl (fun c2 => ?_) (fun c2 => ?_)
   ·have c3 : p (R.1 : Int) = true := by simpa using c2
    refine zm<|zy Y Y<|zH Y Y<|M<|zw ?_
    repeat (first | refine zI ?_ | refine zi ?_)
    refine zg Tryz.results165 ?_;refine ⟨h4, _, rfl, st4.done, (k : Int), rfl, ⟨fun _ => ?_, fun _ => by omega⟩⟩;rw [List.any_eq_true];refine ⟨c, List.mem_of_getElem? hc, ?_⟩
    by_cases hl : c.toNat < 128
    ·rw [decode_low hc hl] at hR; subst hR; exact c3
    ·exact hp _ zD
   ·have c3 : p (R.1 : Int) = false := by simpa using c2
    have hl : c.toNat < 128 := by
     rcases Nat.lt_or_ge c.toNat 128 with h5 | h5
     ·exact h5
     ·have q := decode_high hc zD;rw [hR] at q;rw [hp _ zD] at c3; cases c3
    rw [decode_low hc hl] at hR;subst hR;refine zB<|zX ?_;refine ⟨⟨k + 1, h4⟩, trivial, ?_, ⟨le2.trans s4.le, st4, by omega, ?_⟩, ?_⟩
    ·exact zbs
    ·intro j d hj hd
     rcases Nat.lt_or_ge j k with h3 | h3
     ·exact hall j d h3 hd
     ·obtain rfl : j = k := by omega
      rw [hc] at hd; cases hd;exact c3
    ·show s.length - (k + 1) < s.length - k;omega
  ·cases c1
 ·refine zl ?_;refine zf<|OpsL.nextE st2 (k := 0) Y Y hge Y<|zG (v := .bool _) Y Y Y<|M<|zl ?_;refine zQ rfl (fun c1 => ?_) (fun c1 => ?_)
  ·cases c1
  ·refine zaX ?_;refine zt<|zt<|zaK<|E<|zm<|zH Y Y<|M<|zw<|zg Tryz.results165 ?_;refine ⟨h2, _, rfl, st2.done, _, rfl, ⟨fun q => absurd q (by decide), fun q => ?_⟩⟩;rw [List.any_eq_true] at q;obtain ⟨c, hc, hpc⟩ := q;obtain ⟨j, hj⟩ := List.mem_iff_getElem?.1 hc;have hjl := (List.getElem?_eq_some_iff.1 hj).1;rw [hall j c zD hj] at hpc; cases hpc
theorem c_strings_IndexFunc {s : Str} (hlen : s.length ≤ 281474976710656) {g : FuncId} {caps : List Value} (p : Int → Bool) (hp : ∀ x : Int, 128 ≤ x → p x = true)
  (hf : ∀ (x : Int) h w, Sub h w → Calls Tryz.prog g (.int .i32 x :: caps).toArray w (Rets h w fun _ _ r => r = .bool (p x)))
  (hg : ∀ a w, (callFunc g a).run Tryz.prog w = .ok (.enter g a) w) {h : Heap} {w : World} (hs : Sub h w) :
  Calls Tryz.prog 122 #[zx s, .func (.func g) #[] caps.toArray] w (Rets h w fun _ _ r => ∃ k : Int, r = .int .i64 k ∧ (0 ≤ k ↔ (s.any fun c => p (c.toNat : Int)) = true)) := by
 refine zM (n := 8) Tryz.func122 Y Y Y<|have st0:=zcf hs;zm<|zH Y Y<|M<|zm<|zcE Y Y<|zhA Y Y<|zk st0 Y Y Y Tryz.call165 Y (c_strings_indexFunc hlen p hp hf hg st0.sub) ?_;rintro v w1 h1 le1 st1 ⟨k, rfl, hk⟩;refine zH Y Y<|M<|zw<|zg Tryz.results122 ?_;exact ⟨h1, _, rfl, st1.done, k, rfl, hk⟩
theorem zjB {s : Str} (hlen : s.length ≤ 281474976710656) {g : FuncId} {caps : List Value} (p : Int → Bool) (hp : ∀ x : Int, 128 ≤ x → p x = true)
  (hf : ∀ (x : Int) h w, Sub h w → Calls Tryz.prog g (.int .i32 x :: caps).toArray w (Rets h w fun _ _ r => r = .bool (p x)))
  (hg : ∀ a w, (callFunc g a).run Tryz.prog w = .ok (.enter g a) w) {h : Heap} {w : World} (hs : Sub h w) :
  Calls Tryz.prog 79 #[zx s, .func (.func g) #[] caps.toArray] w (Rets h w fun _ _ r => r = .bool (s.any fun c => p (c.toNat : Int))) := by
 refine zM (n := 9) Tryz.func79 Y Y Y<|have st0:=zcf hs;zm<|zJ Y Y<|M<|zm<|zcE Y Y<|zhA Y Y<|zk st0 Y Y Y Tryz.call122 Y (c_strings_IndexFunc hlen p hp hf hg st0.sub) ?_;rintro v w1 h1 le1 st1 ⟨k, rfl, hk⟩;refine v_geq Y Y Y<|zJ Y Y<|M<|zw<|zg Tryz.results79 ?_;refine ⟨h1, _, rfl, st1.done, zA ?_⟩;rw [Bool.eq_iff_iff, decide_eq_true_eq];exact hk
end Go.Pk

namespace Go.Pk
open Go Go.RowKit Go.Proofs
theorem c_stem_letters_1 {h : Heap} {w : World} (hs : Sub h w) (c : Int) : Calls Tryz.prog 80 #[.int .i32 c] w (Rets h w (fun _ _ res_ => res_ = .bool ((decide (c < 97) || decide (122 < c))))) := by
 refine zM (n := 9) Tryz.func80 Y Y Y<|have st0:=zcf hs;zm<|zJ Y Y<|M<|zm<|zy Y Y<|zbV Y Y Y<|zag Y Y ?_;refine zaT (d := 5) rfl (fun g1 => ?_) (fun g1 => ?_)
 ·refine zP 2 Y<|zak (v := (.bool _)) Y Y Y<|zJ Y Y<|M<|zw<|zg Tryz.results80 ?_;refine ⟨h, _, rfl, st0.done, ?_⟩;refine zA ?_
  first | (simp_all; done) | (simp_all; omega)
 refine U Y Y Y<|zy Y Y<|U Y Y Y<|zeQ Y Y Y<|zT (v := (.bool _)) Y Y Y<|zJ Y Y<|M<|zw<|zg Tryz.results80 ?_;refine ⟨h, _, rfl, st0.done, ?_⟩;refine zA ?_
 first | (simp_all; done) | (simp_all; omega)
theorem zeF {h : Heap} {w : World} (hs : Sub h w) (s : Str) (s_le : s.length ≤ 281474976710656) (lo : Int) : Calls Tryz.prog 50 #[zx s, .int .i64 lo] w (Rets h w (fun _ _ res_ => res_ = .bool (zcI s lo))) := by
 refine zM (n := 15) Tryz.func50 Y Y Y<|have st0:=zcf hs;zm<|zJ Y Y<|M<|zm<|zy Y Y<|zcE Y Y<|zcN Y zaz Y<|zae (L := LInt) (xs := [(s.length : Int)]) (cs := [.int .i64 (s.length : Int)]) st0 (Enc.cons (L := LInt) (vs := [.int .i64 (s.length : Int)]) (x := (s.length : Int)) (h := h) (Y) Enc.nil) Y Y Y zaa Tryz.info3 Y Y Y zh<|fun v1 w2 h5 le6 f3 st4=>zk st4 Y Y Y Tryz.call78 Y (zjf st4.sub _ _ f3)<|fun r7 w8 h9 le10 st11 q12=> ?_;subst q12;refine zag Y Y ?_;refine zaL (d := 10) rfl (fun g13 => ?_) (fun g13 => ?_)
 ·refine U Y Y Y<|zcE Y Y<|U Y Y Y ?_;refine zk st11 rfl rfl rfl Tryz.call79 rfl (zjB (s := s) zbd (fun x_ : Int => (decide ((x_) < 97) || decide (122 < (x_)))) (by intro x_ hx_; simp; omega) (fun x_ h_ w_ hs_ => c_stem_letters_1 hs_ x_) Tryz.call80 st11.sub) ?_;intro r14 w15 h16 le17 st18 q19;subst q19;refine U Y Y Y<|zce Y Y<|zak (v := (.bool _)) Y Y Y<|zJ Y Y<|M<|zw<|zg Tryz.results50 ?_;refine ⟨h16, _, rfl, st18.done, ?_⟩;refine zA ?_;rw [letters_eq];simp_all [zcJ]
 refine zP 3 Y<|zT (v := (.bool _)) Y Y Y<|zJ Y Y<|M<|zw<|zg Tryz.results50 ?_;refine ⟨h9, _, rfl, st11.done, ?_⟩;refine zA ?_;rw [letters_eq];simp_all [zcJ]
theorem zhO {h : Heap} {w : World} (hs : Sub h w) {hd : Head} (hd_l1 : hd.stem.length ≤ 281474976710656) (hd_l2 : 0 ≤ hd.mark ∧ hd.mark ≤ 255) : Calls Tryz.prog 88 #[.agg #[zx hd.stem, .int .u8 hd.mark]] w (Rets h w (fun _ _ res_ => res_ = .bool (zfN hd))) := by
 refine zM (n := 11) Tryz.func88 Y Y Y<|have st0:=zcf hs;zm<|zC st0 (cs := [zx (hd.stem), .int .u8 (hd.mark)]) Y Y Y<|fun b1 w2 h3 le4 hc5 st6=>zJ Y Y<|M<|zm<|zc Y zdD Y zY Y Y<|zd (j := 0) st6.sub hc5 Y Y Y zau Y<|zk st6 Y Y Y Tryz.call50 Y (zeF st6.sub _ zbd _)<|fun r7 w8 h9 le10 st11 q12=> ?_;subst q12;refine zag Y Y ?_;refine zaL (d := 6) rfl (fun g13 => ?_) (fun g13 => ?_)
 ·refine U Y Y Y<|zc Y zdD Y zbc Y Y<|U Y Y Y<|zd (j := 1) st11.sub (hc5.up le10) Y Y Y zbp Y<|U Y Y Y<|Z Y Y (r_leq Y Y)<|zak (v := (.bool _)) Y Y Y<|zJ Y Y<|M<|zw<|zg Tryz.results88 ?_;refine ⟨h9, _, rfl, st11.done, ?_⟩;refine zA ?_;rw [head_eq _ zD];simp_all
 refine zP 3 Y<|zT (v := (.bool _)) Y Y Y<|zJ Y Y<|M<|zw<|zg Tryz.results88 ?_;refine ⟨h9, _, rfl, st11.done, ?_⟩;refine zA ?_;rw [head_eq _ zD];simp_all
end Go.Pk
