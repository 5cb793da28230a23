/- A PART OF THE PROOF: contracts of functions, each walked once (much of it printed by a program of the author's own). -/
import Derived.Test.YtfpiiheehdedmaaGreatDoorT5
import Derived.Test.YtfpiiheehdedmaaGreatDoorT2
set_option linter.unusedSimpArgs false
set_option linter.unusedVariables false
set_option maxRecDepth 4000
namespace Go.Pk
open Go Go.RowKit Go.Proofs
theorem zcu {h : Heap} {w : World} (hs : Sub h w) (n : Int) (lo : Int) (hi : Int) : Calls Tryz.prog 153 #[.int .i64 n, .int .i64 lo, .int .i64 hi] w (Rets h w (fun _ _ res_ => res_ = .bool (inB n lo hi))) := by
 refine zS (n := 15) Tryz.func153 X X X<|have st0:=t_s0 hs;W.sr<|zJ X X<|Y<|W.sr<|zk X X<|zk X X<|zie X X X<|zai X X ?_
 refine zaB (d := 10) rfl (fun g1 => ?_) (fun g1 => ?_)
 ·
  refine M X X X<|zk X X<|M X X X<|zk X X<|M X X X<|zq X X (r_leq X X)<|zaf (v := (.bool _)) X X X<|zJ X X<|Y<|zB<|zc Tryz.results153 ?_
  refine ⟨h, _, rfl, st0.done, ?_⟩
  refine zw ?_
  simp [inB, *]
 refine Z X X X X X<|Z X X X X X<|Z X X X X X<|zX (v := (.bool _)) X X X<|zJ X X<|Y<|zB<|zc Tryz.results153 ?_
 refine ⟨h, _, rfl, st0.done, ?_⟩
 refine zw ?_
 simp [inB, *]
theorem zdw {h : Heap} {w : World} (hs : Sub h w) (n : Int) (lo : Int) (hi : Int) : Calls Tryz.prog 192 #[.int .i64 n, .int .i64 lo, .int .i64 hi] w (Rets h w (fun _ _ res_ => res_ = .bool (inB n lo hi))) := by
 refine zS (n := 15) Tryz.func192 X X X<|have st0:=t_s0 hs;W.sr<|zJ X X<|Y<|W.sr<|zk X X<|zk X X<|zie X X X<|zai X X ?_
 refine zaB (d := 10) rfl (fun g1 => ?_) (fun g1 => ?_)
 ·
  refine M X X X<|zk X X<|M X X X<|zk X X<|M X X X<|zq X X (r_leq X X)<|zaf (v := (.bool _)) X X X<|zJ X X<|Y<|zB<|zc Tryz.results192 ?_
  refine ⟨h, _, rfl, st0.done, ?_⟩
  refine zw ?_
  simp [inB, *]
 refine Z X X X X X<|Z X X X X X<|Z X X X X X<|zX (v := (.bool _)) X X X<|zJ X X<|Y<|zB<|zc Tryz.results192 ?_
 refine ⟨h, _, rfl, st0.done, ?_⟩
 refine zw ?_
 simp [inB, *]
theorem zeL {h : Heap} {w : World} (hs : Sub h w) (s : Str) (s_le : s.length ≤ 281474976710656) : Calls Tryz.prog 191 #[strV s] w (Rets h w (fun _ _ res_ => res_ = .bool (zdy s))) := by
 refine zS (n := 23) Tryz.func191 X X X<|have st0:=t_s0 hs;W.sr<|zJ X X<|Y<|zj<|W.sr<|zz X X<|Y<|zF ?_
 refine zat (t_rg 2 18) (G := Nat × Heap) (fun ⟨k, h1⟩ => [(3, .int .i64 (k : Int))]) (fun ⟨k, h1⟩ w' => Le h h1 ∧ St h w h1 w' [] ∧ (k ≤ s.length) ∧ ((s.take k).all isL = true)) (fun ⟨k, h1⟩ => s.length - k) ⟨0, h⟩ ⟨rfl, trivial⟩ ⟨Le.refl _, st0, zaM, zaM⟩ ?_
 rintro ⟨k, h1⟩ _ w4 ⟨le2, st3, hk, ht⟩
 refine zj<|W.sr<|zk X X<|zbX X X<|zco X zaz X<|zaV X X X<|Y ?_
 refine zH rfl (fun c5 => ?_) (fun c5 => ?_)
 ·
  refine zC<|O<|zj<|zF<|W.sr<|zbX X X<|zk X X ?_
  obtain ⟨y6, hy6⟩ : ∃ y_, (s)[k]? = some y_ := t_ge (by omega)
  refine zq X X (zhQ X X (hk := X) (hb := hy6) (hu := zaz))<|zaV X X X<|zai X X ?_
  refine zaB (d := 14) rfl (fun g7 => ?_) (fun g7 => ?_)
  ·
   refine Z X X X X X<|Z X X X X X<|Z X X X X X<|Z X X X X X<|zaf (v := (.bool _)) X X X<|Y ?_
   refine zad rfl (fun c8 => ?_) (fun c8 => ?_)
   ·
    refine W.sr<|zJ X X<|Y<|zB<|zI<|zd<|zd<|zI<|zd<|zc Tryz.results191 ?_
    refine ⟨h1, _, rfl, st3.done, ?_⟩
    refine zw ?_
    have hn := zcC (p := isL) (by assumption) (by simp [isL]; omega)
    simp [zdy, zcG, hn]
   cases c8
  refine M X X X<|zbX X X<|M X X X<|zk X X<|M X X X<|zq X X (zhQ X X (hk := X) (hb := hy6) (hu := zaz))<|M X X X<|zdr X X X<|zX (v := (.bool _)) X X X<|Y ?_
  refine zH rfl (fun c9 => ?_) (fun c9 => ?_)
  ·
   refine W.sr<|zJ X X<|Y<|zB<|zI<|zd<|zd<|zI<|zd<|zc Tryz.results191 ?_
   refine ⟨h1, _, rfl, st3.done, ?_⟩
   refine zw ?_
   have hn := zcC (p := isL) (by assumption) (by simp [isL]; omega)
   simp [zdy, zcG, hn]
  refine zC<|zP<|O<|zo<|zk X X<|zaP X X t_om X<|zz X X<|Y ?_
  refine ⟨⟨k + 1, h1⟩, ⟨rfl, trivial⟩, ?_, ⟨le2, st3, ?_, ?_⟩, ?_⟩
  ·exact zav
  ·first | omega | (simp; omega)
  ·exact zbY ht (by assumption) (by simp [isL, *]; omega)
  show s.length - ((k + 1)) < s.length - k
  omega
 refine zaC<|zh<|zh<|zah<|O<|W.sr<|zbX X X<|zco X zaz X<|zn st3 X X X zgb X (zcu st3.sub _ _ _)<|fun r10 w11 h12 le13 st14 q15=> ?_
 obtain rfl := q15
 refine zJ X X<|Y<|zB<|zc Tryz.results191 ?_
 refine ⟨h12, _, rfl, st14.done, ?_⟩
 refine zw ?_
 have hn := zcN ht (by omega)
 simp [zdy, zcG, hn]
theorem zgx {h : Heap} {w : World} (hs : Sub h w) (s : Str) (s_le : s.length ≤ 281474976710656) (lo : Int) : Calls Tryz.prog 205 #[strV s, .int .i64 lo] w (Rets h w (fun _ _ res_ => res_ = .bool (zcG s lo))) := by
 refine zS (n := 26) Tryz.func205 X X X<|have st0:=t_s0 hs;W.sr<|zJ X X<|Y<|zj<|W.sr<|zz X X<|Y<|zF ?_
 refine zat (t_rg 4 18) (G := Nat × Heap) (fun ⟨k, h1⟩ => [(5, .int .i64 (k : Int))]) (fun ⟨k, h1⟩ w' => Le h h1 ∧ St h w h1 w' [] ∧ (k ≤ s.length) ∧ ((s.take k).all isL = true)) (fun ⟨k, h1⟩ => s.length - k) ⟨0, h⟩ ⟨rfl, trivial⟩ ⟨Le.refl _, st0, zaM, zaM⟩ ?_
 rintro ⟨k, h1⟩ _ w4 ⟨le2, st3, hk, ht⟩
 refine zj<|W.sr<|zk X X<|zbX X X<|zco X zaz X<|zaV X X X<|Y ?_
 refine zH rfl (fun c5 => ?_) (fun c5 => ?_)
 ·
  refine zC<|O<|zj<|zF<|W.sr<|zbX X X<|zk X X ?_
  obtain ⟨y6, hy6⟩ : ∃ y_, (s)[k]? = some y_ := t_ge (by omega)
  refine zq X X (zhQ X X (hk := X) (hb := hy6) (hu := zaz))<|zaV X X X<|zai X X ?_
  refine zaB (d := 16) rfl (fun g7 => ?_) (fun g7 => ?_)
  ·
   refine Z X X X X X<|Z X X X X X<|Z X X X X X<|Z X X X X X<|zaf (v := (.bool _)) X X X<|Y ?_
   refine zad rfl (fun c8 => ?_) (fun c8 => ?_)
   ·
    refine W.sr<|zJ X X<|Y<|zB<|zI<|zd<|zd<|zI<|zd<|zc Tryz.results205 ?_
    refine ⟨h1, _, rfl, st3.done, ?_⟩
    refine zw ?_
    have hn := zcC (p := isL) (by assumption) (by simp [isL]; omega)
    simp [zdy, zcG, hn]
   cases c8
  refine M X X X<|zbX X X<|M X X X<|zk X X<|M X X X<|zq X X (zhQ X X (hk := X) (hb := hy6) (hu := zaz))<|M X X X<|zdr X X X<|zX (v := (.bool _)) X X X<|Y ?_
  refine zH rfl (fun c9 => ?_) (fun c9 => ?_)
  ·
   refine W.sr<|zJ X X<|Y<|zB<|zI<|zd<|zd<|zI<|zd<|zc Tryz.results205 ?_
   refine ⟨h1, _, rfl, st3.done, ?_⟩
   refine zw ?_
   have hn := zcC (p := isL) (by assumption) (by simp [isL]; omega)
   simp [zdy, zcG, hn]
  refine zC<|zP<|O<|zo<|zk X X<|zaP X X t_om X<|zz X X<|Y ?_
  refine ⟨⟨k + 1, h1⟩, ⟨rfl, trivial⟩, ?_, ⟨le2, st3, ?_, ?_⟩, ?_⟩
  ·exact zav
  ·first | omega | (simp; omega)
  ·exact zbY ht (by assumption) (by simp [isL, *]; omega)
  show s.length - ((k + 1)) < s.length - k
  omega
 refine zaC<|zh<|zh<|zah<|O<|W.sr<|zbX X X<|zco X zaz X<|zk X X<|zn st3 X X X Tryz.call192 X (zdw st3.sub _ _ _)<|fun r10 w11 h12 le13 st14 q15=> ?_
 obtain rfl := q15
 refine zJ X X<|Y<|zB<|zc Tryz.results205 ?_
 refine ⟨h12, _, rfl, st14.done, ?_⟩
 refine zw ?_
 have hn := zcN ht (by omega)
 simp [zdy, zcG, hn]
theorem c_postilref04_Rule {h : Heap} {w : World} (hs : Sub h w) {r : Rule} (r_l1 : r.cut.length ≤ 281474976710656) (r_l2 : r.put.length ≤ 281474976710656) : Calls Tryz.prog 158 #[.agg #[strV r.cut, strV r.put, .int .i64 r.least]] w (Rets h w (fun _ _ res_ => res_ = .bool (zgt r))) := by
 refine zS (n := 23) Tryz.func158 X X X<|have st0:=t_s0 hs;W.sr<|zG st0 (cs := [strV (r.cut), strV (r.put), .int .i64 (r.least)]) X X X<|fun b1 w2 h3 le4 hc5 st6=>zJ X X<|Y<|W.sr<|U X zbo X zW X X<|E (j := 0) st6.sub hc5 X X X zaw X<|zn st6 X X X Tryz.call205 X (zgx st6.sub _ zba _)<|fun r7 w8 h9 le10 st11 q12=> ?_
 obtain rfl := q12
 refine zai X X ?_
 refine zaY (d := 6) rfl (fun g13 => ?_) (fun g13 => ?_)
 ·
  refine M X X X<|U X zbo X zW X X<|M X X X<|E (j := 1) st11.sub (hc5.up le10) X X X zaw X<|M X X X<|zn st11 X X X Tryz.call205 X (zgx st11.sub _ zba _)<|fun r14 w15 h16 le17 st18 q19=> ?_
  obtain rfl := q19
  refine zaf (v := (.bool _)) X X X<|zai X X ?_
  refine zaY (d := 11) rfl (fun g20 => ?_) (fun g20 => ?_)
  ·
   refine M X X X<|U X zbo X zW X X<|M X X X<|E (j := 0) st18.sub (hc5.up (le10.trans le17)) X X X zaw X<|M X X X<|U X zbo X zW X X<|M X X X<|E (j := 1) st18.sub (hc5.up (le10.trans le17)) X X X zaw X<|M X X X<|zq X X (r_sneq X X)<|zaf (v := (.bool _)) X X X<|zai X X ?_
   refine zaB (d := 18) rfl (fun g21 => ?_) (fun g21 => ?_)
   ·
    refine M X X X<|U X zbo X zr X X<|M X X X<|E (j := 2) st18.sub (hc5.up (le10.trans le17)) X X X zN X<|M X X X<|zn st18 X X X Tryz.call192 X (zdw st18.sub _ _ _)<|fun r22 w23 h24 le25 st26 q27=> ?_
    obtain rfl := q27
    refine zaf (v := (.bool _)) X X X<|zJ X X<|Y<|zB<|zc Tryz.results158 ?_
    refine ⟨h24, _, rfl, st26.done, ?_⟩
    refine zw ?_
    simp_all [zgt]
   refine Z X X X X X<|Z X X X X X<|Z X X X X X<|zX (v := (.bool _)) X X X<|zJ X X<|Y<|zB<|zc Tryz.results158 ?_
   refine ⟨h16, _, rfl, st18.done, ?_⟩
   refine zw ?_
   simp_all [zgt]
  refine Z X X X X X<|Z X X X X X<|Z X X X X X<|Z X X X X X<|Z X X X X X<|zX (v := (.bool _)) X X X<|zai X X<|Z X X X X X<|Z X X X X X<|Z X X X X X<|zX (v := (.bool _)) X X X<|zJ X X<|Y<|zB<|zc Tryz.results158 ?_
  refine ⟨h16, _, rfl, st18.done, ?_⟩
  refine zw ?_
  simp_all [zgt]
 refine Z X X X X X<|Z X X X X X<|Z X X X X X<|zX (v := (.bool _)) X X X<|zai X X<|Z X X X X X<|Z X X X X X<|Z X X X X X<|Z X X X X X<|Z X X X X X<|zX (v := (.bool _)) X X X<|zai X X<|Z X X X X X<|Z X X X X X<|Z X X X X X<|zX (v := (.bool _)) X X X<|zJ X X<|Y<|zB<|zc Tryz.results158 ?_
 refine ⟨h9, _, rfl, st11.done, ?_⟩
 refine zw ?_
 simp_all [zgt]
theorem zeK {h : Heap} {w : World} (hs : Sub h w) {hd : Head} (hd_l1 : hd.stem.length ≤ 281474976710656) (hd_l2 : 0 ≤ hd.mark ∧ hd.mark ≤ 255) : Calls Tryz.prog 147 #[.agg #[strV hd.stem, .int .u8 hd.mark]] w (Rets h w (fun _ _ res_ => res_ = .bool (zdV hd))) := by
 refine zS (n := 12) Tryz.func147 X X X<|have st0:=t_s0 hs;W.sr<|zG st0 (cs := [strV (hd.stem), .int .u8 (hd.mark)]) X X X<|fun b1 w2 h3 le4 hc5 st6=>zJ X X<|Y<|W.sr<|U X zbw X zW X X<|E (j := 0) st6.sub hc5 X X X zaw X<|zn st6 X X X Tryz.call191 X (zeL st6.sub _ zba)<|fun r7 w8 h9 le10 st11 q12=> ?_
 obtain rfl := q12
 refine zai X X ?_
 refine zaY (d := 6) rfl (fun g13 => ?_) (fun g13 => ?_)
 ·
  refine M X X X<|U X zbw X zbn X X<|M X X X<|E (j := 1) st11.sub (hc5.up le10) X X X zbG X<|M X X X ?_
  refine zq rfl rfl (zhv rfl rfl zcE (IntWalk.i64_in _ (by omega))) ?_
  refine M X X X<|zn st11 X X X Tryz.call192 X (zdw st11.sub _ _ _)<|fun r14 w15 h16 le17 st18 q19=> ?_
  obtain rfl := q19
  refine zaf (v := (.bool _)) X X X<|zJ X X<|Y<|zB<|zc Tryz.results147 ?_
  refine ⟨h16, _, rfl, st18.done, ?_⟩
  refine zw ?_
  simp_all [zdV]
 refine Z X X X X X<|Z X X X X X<|Z X X X X X<|Z X X X X X<|zX (v := (.bool _)) X X X<|zJ X X<|Y<|zB<|zc Tryz.results147 ?_
 refine ⟨h9, _, rfl, st11.done, ?_⟩
 refine zw ?_
 simp_all [zdV]
theorem zff {h : Heap} {w : World} (hs : Sub h w) {a : Place} {b : Place} : Calls Tryz.prog 146 #[.agg #[.int .i64 a.chapter, .int .i64 a.line, .int .i64 a.word], .agg #[.int .i64 b.chapter, .int .i64 b.line, .int .i64 b.word]] w (Rets h w (fun _ _ res_ => res_ = .bool (zdA a b))) := by
 refine zS (n := 30) Tryz.func146 X X X<|have st0:=t_s0 hs;W.sr<|zG st0 (cs := [.int .i64 (a.chapter), .int .i64 (a.line), .int .i64 (a.word)]) X X X<|fun b1 w2 h3 le4 hc5 st6=>zG st6 (cs := [.int .i64 (b.chapter), .int .i64 (b.line), .int .i64 (b.word)]) X X X<|fun b7 w8 h9 le10 hc11 st12=>zJ X X<|Y<|zj<|W.sr<|U X zan X zr X X<|E (j := 0) st12.sub (hc5.up le10) X X X zN X<|U X zan X zr X X<|E (j := 0) st12.sub hc11 X X X zN X<|zcF X X X<|Y ?_
 refine zH rfl (fun c13 => ?_) (fun c13 => ?_)
 ·
  refine W.sr<|U X zan X zr X X<|E (j := 0) st12.sub (hc5.up le10) X X X zN X<|U X zan X zr X X<|E (j := 0) st12.sub hc11 X X X zN X<|zaV X X X<|zJ X X<|Y<|zB<|zd<|zc Tryz.results146 ?_
  refine ⟨h9, _, rfl, st12.done, ?_⟩
  refine zw ?_
  simp_all [zdA]
 refine zC<|O<|zj<|W.sr<|U X zan X zr X X<|E (j := 1) st12.sub (hc5.up le10) X X X zN X<|U X zan X zr X X<|E (j := 1) st12.sub hc11 X X X zN X<|zcF X X X<|Y ?_
 refine zH rfl (fun c14 => ?_) (fun c14 => ?_)
 ·
  refine W.sr<|U X zan X zr X X<|E (j := 1) st12.sub (hc5.up le10) X X X zN X<|U X zan X zr X X<|E (j := 1) st12.sub hc11 X X X zN X<|zaV X X X<|zJ X X<|Y<|zB<|zd<|zc Tryz.results146 ?_
  refine ⟨h9, _, rfl, st12.done, ?_⟩
  refine zw ?_
  simp_all [zdA]
 refine zC<|O<|W.sr<|U X zan X zr X X<|E (j := 2) st12.sub (hc5.up le10) X X X zN X<|U X zan X zr X X<|E (j := 2) st12.sub hc11 X X X zN X<|zaV X X X<|zJ X X<|Y<|zB<|zc Tryz.results146 ?_
 refine ⟨h9, _, rfl, st12.done, ?_⟩
 refine zw ?_
 simp_all [zdA]
end Go.Pk

namespace Go.Pk
open Go Go.RowKit Go.Proofs
theorem c_postilref01_Text {h : Heap} {w : World} (hs : Sub h w) {t : Text} {t_v0 : Value} (t_f0 : Sl LChapter h t_v0 t.chapters) : Calls Tryz.prog 190 #[.agg #[t_v0]] w (Rets h w (fun _ _ res_ => res_ = .bool (zbu t))) := by
 refine zS (n := 85) Tryz.func190 X X X<|have st0:=t_s0 hs;have t_f0_b:=t_f0.le;W.sr<|zG st0 (cs := [t_v0]) X X X<|fun b1 w2 h3 le4 hc5 st6=>zJ X X<|Y<|zj<|W.sr<|U X zaF X zbi X X<|E (j := 0) st6.sub hc5 X X X zby X<|zaJ (t_f0.up le4) X zay X<|zn st6 X X X zgb X (zcu st6.sub _ _ _)<|fun r7 w8 h9 le10 st11 q12=> ?_
 obtain rfl := q12
 refine zbQ X X<|Y ?_
 refine zad rfl (fun c13 => ?_) (fun c13 => ?_)
 ·
  refine W.sr<|zJ X X<|Y<|zB<|zd<|zc zeM ?_
  refine ⟨h9, _, rfl, st11.done, ?_⟩
  refine zw ?_
  simp_all [zbu]
 refine zC<|O<|zj<|W.sr<|zz X X<|Y<|zF ?_
 refine zat (t_rg 2 6 ++ t_rg 13 72) (G := Nat × Heap) (fun ⟨i, h14⟩ => [(3, .int .i64 (i : Int))]) (fun ⟨i, h14⟩ w' => Le h9 h14 ∧ St h w h14 w' [] ∧ (i ≤ t.chapters.length) ∧ ((t.chapters.take i).all zbT = true) ∧ (((t.chapters.take i).map (·.id)).Nodup)) (fun ⟨i, h14⟩ => t.chapters.length - i) ⟨0, h9⟩ ⟨rfl, trivial⟩ ⟨Le.refl _, st11, zaM, zaM, zaM⟩ ?_
 rintro ⟨i, h14⟩ _ w17 ⟨le15, st16, hi, hA, hN⟩
 refine zj<|W.sr<|zk X X<|U X zaF X zbi X X<|E (j := 0) st16.sub (hc5.up (le10.trans le15)) X X X zby X<|have l18:=(le4.trans le10).trans le15;zaJ (t_f0.up l18) X zay X<|zaV X X X<|Y ?_
 refine zH rfl (fun c19 => ?_) (fun c19 => ?_)
 ·
  refine zC<|O<|zj<|zF<|W.sr<|U X zaF X zbi X X<|E (j := 0) st16.sub (hc5.up (le10.trans le15)) X X X zby X<|zk X X ?_
  obtain ⟨c, hc⟩ : ∃ y_, (t.chapters)[i]? = some y_ := t_ge (by omega)
  obtain ⟨b20, o21, _, he23, hc22, hr_c⟩ := Sl.elem (t_f0.up l18) hc
  obtain ⟨v24, rfl, f25⟩ := hr_c
  have f25_b := f25.le
  refine zV he23 X X (hk := X) (hu := zay) (hz := zbg) X<|zy st16.sub hc22 X Tryz.isAgg152 zbg X X<|zae st16 zex X X<|fun b26 w27 st28=>zM st28 (k := 0) X X X (za X (za f25.one zap)) zbg X X X<|fun w29 st30=> ?_
  obtain ⟨h31, le32, hb33, st35⟩ := st30.freeze (k := 0) rfl
  have hc34 := Cells.of hb33
  refine Y<|zj<|W.sr<|U X zal X zr X X<|E (j := 0) st35.sub hc34 X X X zN X<|zn st35 X X X zgb X (zcu st35.sub _ _ _)<|fun r36 w37 h38 le39 st40 q41=> ?_
  obtain rfl := q41
  refine zbQ X X<|zai X X ?_
  refine zaY (d := 29) rfl (fun g42 => ?_) (fun g42 => ?_)
  ·
   refine Z X X X X X<|Z X X X X X<|Z X X X X X<|Z X X X X X<|Z X X X X X<|zaf (v := (.bool _)) X X X<|Y ?_
   refine zad rfl (fun c43 => ?_) (fun c43 => ?_)
   ·
    refine W.sr<|zJ X X<|Y<|zB<|zd<|zI<|zd<|zd<|zI<|zd<|zc zeM ?_
    refine ⟨h38, _, rfl, st40.done, ?_⟩
    refine zw ?_
    have q0 : zbT c = false := by simp_all [zbT]
    have q := zcC (p := zbT) hc q0
    simp [zbu, q]
   cases c43
  refine M X X X<|U X zal X zbq X X<|M X X X<|E (j := 1) st40.sub (hc34.up le39) X X X zbH X<|M X X X<|zaJ (f25.up (le32.trans le39)) X zaH X<|M X X X<|zn st40 X X X zgb X (zcu st40.sub _ _ _)<|fun r44 w45 h46 le47 st48 q49=> ?_
  obtain rfl := q49
  refine M X X X<|zbQ X X<|zX (v := (.bool _)) X X X<|Y ?_
  refine zad rfl (fun c50 => ?_) (fun c50 => ?_)
  ·
   refine W.sr<|zJ X X<|Y<|zB<|zd<|zI<|zd<|zd<|zI<|zd<|zc zeM ?_
   refine ⟨h46, _, rfl, st48.done, ?_⟩
   refine zw ?_
   have q0 : zbT c = false := by simp_all [zbT]
   have q := zcC (p := zbT) hc q0
   simp [zbu, q]
  refine zC<|O<|zj<|W.sr<|zz X X<|Y<|zF ?_
  refine zat ([2, 5] ++ t_rg 36 14) (G := Nat × Heap) (fun ⟨k1, h51⟩ => [(5, .int .i64 (k1 : Int))]) (fun ⟨k1, h51⟩ w' => Le h46 h51 ∧ St h w h51 w' [[]] ∧ (k1 ≤ i) ∧ (∀ j c2, j < k1 → t.chapters[j]? = some c2 → c2.id ≠ c.id)) (fun ⟨k1, h51⟩ => i - k1) ⟨0, h46⟩ ⟨rfl, trivial⟩ ⟨Le.refl _, st48, zaM, (by intro j _ hj; omega)⟩ ?_
  rintro ⟨k1, h51⟩ _ w54 ⟨le52, st53, hk1, hd⟩
  refine zj<|W.sr<|zk X X<|zk X X<|zaV X X X<|Y ?_
  refine zH rfl (fun c55 => ?_) (fun c55 => ?_)
  ·
   refine zC<|O<|zj<|zF<|zj<|zbj Tryz.mixed t_kr (Cls h51 _) (Cls.drew st53)<|zD X zaF X zbi X X<|have l56:=((((le10.trans le15).trans le32).trans le39).trans le47).trans le52;zl X X (fun _ hC => (ze (j := 0) hC.sub (hc5.up l56) X X X zby))<|zbJ X X ?_
   obtain ⟨cc, hcc⟩ : ∃ y_, (t.chapters)[k1]? = some y_ := t_ge (by omega)
   have l61 := (((l18.trans le32).trans le39).trans le47).trans le52
   obtain ⟨b57, o58, _, he60, hc59, hr_cc⟩ := Sl.elem (t_f0.up l61) hcc
   obtain ⟨v62, rfl, f63⟩ := hr_cc
   have f63_b := f63.le
   refine zaG he60 X X (hk := X) (hu := zay) (hz := zbg) X<|zD X zal X zr X X<|zl X X (fun _ hC => (ze (j := 0) hC.sub hc59 X X X zN))<|zD X zal X zr X X<|zl X X (fun _ hC => (ze (j := 0) hC.sub (hc34.up ((le39.trans le47).trans le52)) X X X zN))<|u_eql X X X<|zaN ?_
   rintro w64 ⟨h65, s66⟩
   have st67 := st53.call0 s66
   refine O ?_
   refine zH rfl (fun c68 => ?_) (fun c68 => ?_)
   ·
    refine W.sr<|zJ X X<|Y<|zB<|zI<|zd<|zd<|zI<|zd<|zI<|zd<|zd<|zI<|zd<|zc zeM ?_
    refine ⟨h65, _, rfl, st67.done, ?_⟩
    refine zw ?_
    have q := zik (f := (·.id)) hcc hc (by omega) (by assumption)
    simp [zbu, q]
   refine zC<|zP<|O<|zo<|zk X X<|zaP X X t_om X<|zz X X<|Y ?_
   refine ⟨⟨k1 + 1, h65⟩, ⟨rfl, trivial⟩, ?_, ⟨(le52.trans s66.le), st67, ?_, ?_⟩, ?_⟩
   ·exact zav
   ·first | omega | (simp; omega)
   ·intro j c2 h1 h2
    rcases Nat.lt_or_ge j k1 with h3 | h3
    ·exact hd j c2 h3 h2
    ·obtain rfl : j = k1 := by omega
     rw [h2] at hcc; cases hcc; assumption
   show i - ((k1 + 1)) < i - k1
   omega
  refine zaC<|zh<|zh<|zah<|O<|W.sr<|zz X X<|Y<|zF ?_
  refine zat ([2, 6, 7] ++ t_rg 50 35) (G := Nat × Heap) (fun ⟨k2, h69⟩ => [(6, .int .i64 (k2 : Int))]) (fun ⟨k2, h69⟩ w' => Le h51 h69 ∧ St h w h69 w' [[]] ∧ (k2 ≤ c.lines.length) ∧ ((c.lines.take k2).all zgh = true)) (fun ⟨k2, h69⟩ => c.lines.length - k2) ⟨0, h51⟩ ⟨rfl, trivial⟩ ⟨Le.refl _, st53, zaM, zaM⟩ ?_
  rintro ⟨k2, h69⟩ _ w72 ⟨le70, st71, hk2, hl⟩
  refine zj<|W.sr<|zk X X<|U X zal X zbq X X<|have l73:=((le39.trans le47).trans le52).trans le70;E (j := 1) st71.sub (hc34.up l73) X X X zbH X<|have l74:=(((le32.trans le39).trans le47).trans le52).trans le70;zaJ (f25.up l74) X zaH X<|zaV X X X<|Y ?_
  refine zH rfl (fun c75 => ?_) (fun c75 => ?_)
  ·
   refine zC<|O<|zj<|zF<|zj<|W.sr<|U X zal X zbq X X<|E (j := 1) st71.sub (hc34.up l73) X X X zbH X<|zk X X ?_
   obtain ⟨ln, hln⟩ : ∃ y_, (c.lines)[k2]? = some y_ := t_ge (by omega)
   obtain ⟨b76, o77, _, he79, hc78, hr_ln⟩ := Sl.elem (f25.up l74) hln
   obtain ⟨v80, rfl, f81⟩ := hr_ln
   have f81_b := f81.le
   refine zV he79 X X (hk := X) (hu := zaH) (hz := zcV) X<|E (j := 0) st71.sub hc78 X X X zdk X<|zaJ f81 X zA X<|zn st71 X X X zgb X (zcu st71.sub _ _ _)<|fun r82 w83 h84 le85 st86 q87=> ?_
   obtain rfl := q87
   refine zbQ X X<|Y ?_
   refine zad rfl (fun c88 => ?_) (fun c88 => ?_)
   ·
    refine W.sr<|zJ X X<|Y<|zB<|zd<|zI<|zd<|zd<|zI<|zI<|zd<|zd<|zI<|zd<|zc zeM ?_
    refine ⟨h84, _, rfl, st86.done, ?_⟩
    refine zw ?_
    have q1 : zgh ln = false := by simp_all [zgh]
    have q2 := zcC (p := zgh) hln q1
    have q0 : zbT c = false := by simp [zbT, q2]
    have q := zcC (p := zbT) hc q0
    simp [zbu, q]
   refine zC<|O<|W.sr<|zz X X<|Y<|zF ?_
   refine zat ([2, 7] ++ t_rg 65 20) (G := Nat × Heap) (fun ⟨k3, h89⟩ => [(7, .int .i64 (k3 : Int))]) (fun ⟨k3, h89⟩ w' => Le h84 h89 ∧ St h w h89 w' [[]] ∧ (k3 ≤ ln.length) ∧ ((ln.take k3).all zdy = true)) (fun ⟨k3, h89⟩ => ln.length - k3) ⟨0, h84⟩ ⟨rfl, trivial⟩ ⟨Le.refl _, st86, zaM, zaM⟩ ?_
   rintro ⟨k3, h89⟩ _ w92 ⟨le90, st91, hk3, hw⟩
   refine zj<|W.sr<|zk X X<|U X zal X zbq X X<|E (j := 1) st91.sub (hc34.up ((l73.trans le85).trans le90)) X X X zbH X<|zk X X<|zV he79 X X (hk := X) (hu := zaH) (hz := zcV) X<|E (j := 0) st91.sub (hc78.up (le85.trans le90)) X X X zdk X<|zaJ (f81.up (le85.trans le90)) X zA X<|zaV X X X<|Y ?_
   refine zH rfl (fun c93 => ?_) (fun c93 => ?_)
   ·
    refine zC<|O<|zj<|zF<|W.sr<|U X zal X zbq X X<|E (j := 1) st91.sub (hc34.up ((l73.trans le85).trans le90)) X X X zbH X<|zk X X<|zV he79 X X (hk := X) (hu := zaH) (hz := zcV) X<|E (j := 0) st91.sub (hc78.up (le85.trans le90)) X X X zdk X<|zk X X ?_
    obtain ⟨y94, hy94⟩ : ∃ y_, (ln)[k3]? = some y_ := t_ge (by omega)
    obtain ⟨b95, o96, _, he98, hc97, hr_y94⟩ := Sl.elem (f81.up (le85.trans le90)) hy94
    obtain ⟨rfl, ls99⟩ := hr_y94
    simp only [big] at ls99
    refine zV he98 X X (hk := X) (hu := zA) (hz := zW) X<|E (j := 0) st91.sub hc97 X X X zaw X<|zn st91 X X X Tryz.call191 X (zeL st91.sub _ zba)<|fun r100 w101 h102 le103 st104 q105=> ?_
    obtain rfl := q105
    refine zbQ X X<|Y ?_
    refine zad rfl (fun c106 => ?_) (fun c106 => ?_)
    ·
     refine W.sr<|zJ X X<|Y<|zB<|zI<|zd<|zd<|zI<|zI<|zd<|zd<|zI<|zI<|zd<|zd<|zI<|zd<|zc zeM ?_
     refine ⟨h102, _, rfl, st104.done, ?_⟩
     refine zw ?_
     have q3 := zcC (p := zdy) (by assumption) (by simpa using c106)
     have q1 : zgh ln = false := by simp [zgh, q3]
     have q2 := zcC (p := zgh) hln q1
     have q0 : zbT c = false := by simp [zbT, q2]
     have q := zcC (p := zbT) hc q0
     simp [zbu, q]
    refine zC<|zP<|O<|zo<|zk X X<|zaP X X t_om X<|zz X X<|Y ?_
    refine ⟨⟨k3 + 1, h102⟩, ⟨rfl, trivial⟩, ?_, ⟨(le90.trans le103), st104, ?_, ?_⟩, ?_⟩
    ·exact zav
    ·first | omega | (simp; omega)
    ·exact zbY hw (by assumption) (by simp_all)
    show ln.length - ((k3 + 1)) < ln.length - k3
    omega
   refine zaC<|zh<|zh<|zah<|zP<|O<|zo<|zk X X<|zaP X X t_om X<|zz X X<|Y ?_
   refine ⟨⟨k2 + 1, h89⟩, ⟨rfl, trivial⟩, ?_, ⟨((le70.trans le85).trans le90), st91, ?_, ?_⟩, ?_⟩
   ·exact zav
   ·first | omega | (simp; omega)
   ·exact zbY hl hln (by simp_all [zgh, zcN hw (by omega)])
   show c.lines.length - ((k2 + 1)) < c.lines.length - k2
   omega
  refine zaC<|zh<|zh<|zah<|zP<|O<|zo<|zk X X<|zaP X X t_om X<|zz X X<|Y ?_
  have HCH : zbT c = true := by
   have q := zcN hl (by omega)
   simp_all [zbT]
  have l107 := ((((le15.trans le32).trans le39).trans le47).trans le52).trans le70
  refine ⟨⟨i + 1, h69⟩, ⟨rfl, trivial⟩, ?_, ⟨l107, st71.take 0, ?_, ?_, ?_⟩, ?_⟩
  ·exact zav
  ·first | omega | (simp; omega)
  ·exact zbY hA hc HCH
  ·exact nodup_take_succ hN hc (by omega) (fun j c2 h1 h2 => hd j c2 (by omega) h2)
  show t.chapters.length - ((i + 1)) < t.chapters.length - i
  omega
 refine zaC<|zh<|zh<|zah<|O<|W.sr<|zJ X X<|Y<|zB<|zc zeM ?_
 refine ⟨h14, _, rfl, st16.done, ?_⟩
 refine zw ?_
 have q := zcN hA (by omega)
 have q2 : t.chapters.take i = t.chapters := List.take_of_length_le (by omega)
 rw [q2] at hN
 simp_all [zbu]
theorem c_postilref01_Check {h : Heap} {w : World} (hs : Sub h w) {t : Text} {t_v0 : Value} (t_f0 : Sl LChapter h t_v0 t.chapters) : Calls Tryz.prog 145 #[.agg #[t_v0]] w (Rets h w (fun _ _ res_ => res_ = .int .i64 ((if zbu t then 0 else 10)))) := by
 refine zS (n := 6) Tryz.func145 X X X<|have st0:=t_s0 hs;have t_f0_b:=t_f0.le;W.sr<|zG st0 (cs := [t_v0]) X X X<|fun b1 w2 h3 le4 hc5 st6=>zz X X<|Y<|zj<|W.sr<|zy st6.sub hc5 X zaO zac X X<|zn st6 X X X Tryz.call190 X (c_postilref01_Text st6.sub (t := t) (t_f0.up le4))<|fun r7 w8 h9 le10 st11 q12=> ?_
 obtain rfl := q12
 refine zbQ X X<|Y ?_
 refine zad rfl (fun c13 => ?_) (fun c13 => ?_)
 ·
  refine W.sr<|zz X X<|Y<|zB<|zd<|zc Tryz.results145 ?_
  refine ⟨h9, _, rfl, st11.done, ?_⟩
  refine zar ?_
  simp_all
 refine zC<|O<|W.sr<|zz X X<|Y<|zB<|zc Tryz.results145 ?_
 refine ⟨h9, _, rfl, st11.done, ?_⟩
 refine zar ?_
 simp_all
theorem c_postilref01_line {h : Heap} {w : World} (hs : Sub h w) {t : Text} {t_v0 : Value} (t_f0 : Sl LChapter h t_v0 t.chapters) {p : Place} : Calls Tryz.prog 152 #[.agg #[t_v0], .agg #[.int .i64 p.chapter, .int .i64 p.line, .int .i64 p.word]] w (Rets h w (fun h' _ res_ => ∃ u0, res_ = .tuple #[u0, .bool ((zcT t p).isSome)] ∧ Sl LStr h' u0 ((zcT t p).getD []))) := by
 refine zS (n := 40) Tryz.func152 X X X<|have st0:=t_s0 hs;have t_f0_b:=t_f0.le;W.sr<|zG st0 (cs := [t_v0]) X X X<|fun b1 w2 h3 le4 hc5 st6=>zG st6 (cs := [.int .i64 (p.chapter), .int .i64 (p.line), .int .i64 (p.word)]) X X X<|fun b7 w8 h9 le10 hc11 st12=>zcz X X<|zJ X X<|Y<|zj<|zj<|zbj Tryz.mixed t_kr (Cls h9 _) (Cls.drew st12)<|zD X zan X zr X X<|zl X X (fun _ hC => (ze (j := 0) hC.sub hc11 X X X zN))<|zD X zaF X zbi X X<|zl X X (fun _ hC => (ze (j := 0) hC.sub (hc5.up le10) X X X zby))<|have l13:=le4.trans le10;u_len (t_f0.up l13) X zay X<|zig X X t_om X<|zbU X X (fun _ => zbc X zgb X) (fun _ hC => Rets.quiet hC (zcu hC.sub _ _ _))<|zhO X X<|zdS X X ?_
 refine zeO (d := 14) rfl (fun g14 => ?_) (fun g14 => ?_)
 ·
  refine zb X X X X X<|zb X X X X X<|zb X X X X X<|zb X X X X X<|zb X X X X X<|zb X X X X X<|zb X X X X X<|zb X X X X X<|zb X X X X X<|zb X X X X X<|zb X X X X X<|zb X X X X X<|zb X X X X X<|zcK (v := (.bool _)) X X X<|zaN ?_
  rintro w15 ⟨h16, s17⟩
  have st18 := st12.call0 s17
  refine O ?_
  refine zad rfl (fun c19 => ?_) (fun c19 => ?_)
  ·
   refine W.sr<|zcz X X<|zJ X X<|Y<|zB<|zd<|zbs Tryz.results152 ?_
   refine ⟨h16, _, rfl, st18.done, ?_⟩
   refine ⟨_, tup2 rfl (zw ?_), Sl.to (Sl.nil _ _) ?_⟩
   all_goals have q := g14
   all_goals simp [inB] at q
   ·have q2 : zcT t p = none := line_none1 (by omega)
    simp [q2]
   have q2 : zcT t p = none := line_none1 (by omega)
   simp [q2]
  cases c19
 refine zg X X X<|zD X zan X zr X X<|zg X X X<|zl X X (fun _ hC => (ze (j := 1) hC.sub hc11 X X X zN))<|zg X X X<|zD X zaF X zbi X X<|zg X X X<|zl X X (fun _ hC => (ze (j := 0) hC.sub (hc5.up le10) X X X zby))<|zg X X X<|zD X zan X zr X X<|zg X X X<|zl X X (fun _ hC => (ze (j := 0) hC.sub hc11 X X X zN))<|zg X X X ?_
 have q1 : 0 ≤ p.chapter ∧ p.chapter < t.chapters.length := by
  have q := g14
  simp [inB] at q
  omega
 obtain ⟨c, hc⟩ : ∃ y_, (t.chapters)[p.chapter.toNat]? = some y_ := t_ge (by omega)
 obtain ⟨b20, o21, _, he23, hc22, hr_c⟩ := Sl.elem (t_f0.up l13) hc
 obtain ⟨v24, rfl, f25⟩ := hr_c
 have f25_b := f25.le
 refine zl rfl rfl (fun _ _ => (zao he23 rfl rfl (hk := (show _ = ((p.chapter.toNat : Nat) : Int) by omega)) (hu := zay) (hz := zbg))) ?_
 refine zg X X X<|zD X zal X zbq X X<|zg X X X<|zl X X (fun _ hC => (ze (j := 1) hC.sub hc22 X X X zbH))<|zg X X X<|u_len f25 X zaH X<|zg X X X<|zig X X t_om X<|zg X X X<|zbU X X (fun _ => zbc X zgb X) (fun _ hC => Rets.quiet hC (zcu hC.sub _ _ _))<|zg X X X<|zhO X X<|zcL (v := (.bool _)) X X X<|zaN ?_
 rintro w26 ⟨h27, s28⟩
 have st29 := st12.call0 s28
 refine O ?_
 refine zad rfl (fun c30 => ?_) (fun c30 => ?_)
 ·
  refine W.sr<|zcz X X<|zJ X X<|Y<|zB<|zd<|zbs Tryz.results152 ?_
  refine ⟨h27, _, rfl, st29.done, ?_⟩
  refine ⟨_, tup2 rfl (zw ?_), Sl.to (Sl.nil _ _) ?_⟩
  all_goals have q := c30
  all_goals simp [inB] at q
  ·have q2 : zcT t p = none := line_none2 hc (by omega)
   simp [q2]
  have q2 : zcT t p = none := line_none2 hc (by omega)
  simp [q2]
 refine zC<|O<|zj ?_
 have q2 : 0 ≤ p.line ∧ p.line < c.lines.length := by
  have q := c30
  simp [inB] at q
  omega
 refine zbj Tryz.mixed t_kr (Cls h27 _) (Cls.drew st29)<|zD X zaF X zbi X X<|zl X X (fun _ hC => (ze (j := 0) hC.sub (hc5.up (le10.trans s28.le)) X X X zby))<|zD X zan X zr X X<|zl X X (fun _ hC => (ze (j := 0) hC.sub (hc11.up s28.le) X X X zN)) ?_
 refine zl rfl rfl (fun _ _ => (zao he23 rfl rfl (hk := (show _ = ((p.chapter.toNat : Nat) : Int) by omega)) (hu := zay) (hz := zbg))) ?_
 refine zD X zal X zbq X X<|zl X X (fun _ hC => (ze (j := 1) hC.sub (hc22.up s28.le) X X X zbH))<|zD X zan X zr X X<|zl X X (fun _ hC => (ze (j := 1) hC.sub (hc11.up s28.le) X X X zN)) ?_
 obtain ⟨ln, hln⟩ : ∃ y_, (c.lines)[p.line.toNat]? = some y_ := t_ge (by omega)
 obtain ⟨b31, o32, _, he34, hc33, hr_ln⟩ := Sl.elem (f25.up s28.le) hln
 obtain ⟨v35, rfl, f36⟩ := hr_ln
 have f36_b := f36.le
 refine zl rfl rfl (fun _ _ => (zao he34 rfl rfl (hk := (show _ = ((p.line.toNat : Nat) : Int) by omega)) (hu := zaH) (hz := zcV))) ?_
 refine zl X X (fun _ hC => (ze (j := 0) hC.sub hc33 X X X zdk))<|u_assign (v := v35) X X<|u_asB X X<|zaN ?_
 rintro w37 ⟨h38, s39⟩
 have st40 := st29.call0 s39
 refine O<|zB<|zbs Tryz.results152 ?_
 refine ⟨h38, _, rfl, st40.done, ?_⟩
 refine ⟨_, tup2 rfl (zw ?_), Sl.to (f36.up s39.le) ?_⟩
 ·simp [line_some hc q1.1 hln q2.1]
 simp [line_some hc q1.1 hln q2.1]
theorem zfA {h : Heap} {w : World} (hs : Sub h w) {t : Text} {t_v0 : Value} (t_f0 : Sl LChapter h t_v0 t.chapters) {p : Place} : Calls Tryz.prog 113 #[.agg #[t_v0], .agg #[.int .i64 p.chapter, .int .i64 p.line, .int .i64 p.word]] w (Rets h w (fun _ _ res_ => res_ = .bool (zbB t p))) := by
 refine zS (n := 22) Tryz.func113 X X X<|have st0:=t_s0 hs;have t_f0_b:=t_f0.le;W.sr<|zG st0 (cs := [t_v0]) X X X<|fun b1 w2 h3 le4 hc5 st6=>zG st6 (cs := [.int .i64 (p.chapter), .int .i64 (p.line), .int .i64 (p.word)]) X X X<|fun b7 w8 h9 le10 hc11 st12=>zJ X X<|Y<|W.sr<|zy st12.sub (hc5.up le10) X zaO zac X X<|zy st12.sub hc11 X zaD zO X X<|have l13:=le4.trans le10;zn st12 X X X Tryz.call152 X (c_postilref01_line st12.sub (t := t) (t_f0.up l13) (p := p))<|fun r14 w15 h16 le17 st18 q19=> ?_
 obtain ⟨v20, rfl, f21⟩ := q19
 have f21_b := f21.le
 refine zdu X X<|zak (v := v20) X X X<|zak (v := (.bool _)) X X X<|zaj (v := v20) X X<|zJ X X<|Y<|W.sr<|zai X X<|zai X X ?_
 refine zaY (d := 14) rfl (fun g22 => ?_) (fun g22 => ?_)
 ·
  refine M X X X<|U X zan X zr X X<|M X X X<|E (j := 2) st18.sub (hc11.up le17) X X X zN X<|M X X X<|zaa (v := v20) X X<|M X X X<|zaJ f21 X zA X<|M X X X<|zfu X X t_om X<|M X X X<|zn st18 X X X zgb X (zcu st18.sub _ _ _)<|fun r23 w24 h25 le26 st27 q28=> ?_
  obtain rfl := q28
  refine zaf (v := (.bool _)) X X X<|zJ X X<|Y<|zB<|zc Tryz.results113 ?_
  refine ⟨h25, _, rfl, st27.done, ?_⟩
  refine zw ?_
  simp_all [place_eq]
 refine Z X X X X X<|Z X X X X X<|Z X X X X X<|Z X X X X X<|Z X X X X X<|Z X X X X X<|zX (v := (.bool _)) X X X<|zJ X X<|Y<|zB<|zc Tryz.results113 ?_
 refine ⟨h16, _, rfl, st18.done, ?_⟩
 refine zw ?_
 simp_all [place_eq]
theorem ziL {h : Heap} {w : World} (hs : Sub h w) {t : Text} {t_v0 : Value} (t_f0 : Sl LChapter h t_v0 t.chapters) {d : Decision} (d_l2 : 0 ≤ d.kind ∧ d.kind ≤ 255) (d_l3 : d.form.length ≤ 281474976710656) (d_l7 : d.to.stem.length ≤ 281474976710656) (d_l8 : 0 ≤ d.to.mark ∧ d.to.mark ≤ 255) : Calls Tryz.prog 159 #[.agg #[t_v0], .agg #[.int .i64 d.number, .int .u8 d.kind, strV d.form, .int .i64 d.at_.chapter, .int .i64 d.at_.line, .int .i64 d.at_.word, strV d.to.stem, .int .u8 d.to.mark, .int .i64 d.of_]] w (Rets h w (fun _ _ res_ => res_ = .bool (zaq t d))) := by
 refine zS (n := 102) Tryz.func159 X X X<|have st0:=t_s0 hs;have t_f0_b:=t_f0.le;W.sr<|zG st0 (cs := [t_v0]) X X X<|fun b1 w2 h3 le4 hc5 st6=>zG st6 (cs := [.int .i64 (d.number), .int .u8 (d.kind), strV (d.form), .int .i64 (d.at_.chapter), .int .i64 (d.at_.line), .int .i64 (d.at_.word), strV (d.to.stem), .int .u8 (d.to.mark), .int .i64 (d.of_)]) X X X<|fun b7 w8 h9 le10 hc11 st12=>zJ X X<|Y<|zj<|W.sr<|U X zi X zr X X<|E (j := 0) st12.sub hc11 X X X zN X<|zn st12 X X X Tryz.call192 X (zdw st12.sub _ _ _)<|fun r13 w14 h15 le16 st17 q18=> ?_
 obtain rfl := q18
 refine zbQ X X<|Y ?_
 refine zad rfl (fun c19 => ?_) (fun c19 => ?_)
 ·
  refine W.sr<|zJ X X<|Y<|zB<|zd<|zc zcc ?_
  refine ⟨h15, _, rfl, st17.done, ?_⟩
  refine zw ?_
  simp_all [zaq]
 have qn : 1 ≤ d.number ∧ d.number ≤ 999 := by
  have q := c19
  simp [inB] at q
  omega
 refine zC<|O<|W.sr<|zq X X (zbW (cs := [.int .i64 0, .int .i64 0, .int .i64 0]) t_kr)<|zq X X (zbW (cs := [strV [], .int .u8 0]) t_kr)<|zy st17.sub (hc5.up (le10.trans le16)) X zaO zac X X<|U X zi X zO X X<|zab (j := 3) st17.sub (hc11.up le16) (us := [.int .i64 (d.at_.chapter), .int .i64 (d.at_.line), .int .i64 (d.at_.word)]) X X zaD zO X X X<|have l20:=(le4.trans le10).trans le16;zn st17 X X X Tryz.call113 X (zfA st17.sub (t := t) (t_f0.up l20) (p := d.at_))<|fun r21 w22 h23 le24 st25 q26=> ?_
 obtain rfl := q26
 refine zae st25 Tryz.zeroValue70 X X<|fun b27 w28 st29=>zae st29 zdb X X<|fun b30 w31 st32=>zM st32 (k := 0) X X X (za X (za X (za X zap))) zO X X X<|fun w33 st34=> ?_
 obtain ⟨h35, le36, hb37, st39⟩ := st34.freeze (k := 0) rfl
 have hc38 := Cells.of hb37
 refine zM st39 (k := 1) X X X (za X (za X zap)) zT X X X<|fun w40 st41=> ?_
 obtain ⟨h42, le43, hb44, st46⟩ := st41.freeze (k := 1) rfl
 have hc45 := Cells.of hb44
 refine zJ X X<|Y<|zj<|W.sr<|U X zi X zbn X X<|have l47:=((le16.trans le24).trans le36).trans le43;E (j := 1) st46.sub (hc11.up l47) X X X zbG X<|Y<|zF<|W.sr<|zee X X X<|zJ X X<|Y ?_
 refine zH rfl (fun c48 => ?_) (fun c48 => ?_)
 ·
  refine W.sr<|U X zi X zW X X<|E (j := 2) st46.sub (hc11.up l47) X X X zaw X<|zn st46 X X X Tryz.call191 X (zeL st46.sub _ zba)<|fun r49 w50 h51 le52 st53 q54=> ?_
  obtain rfl := q54
  refine zai X X ?_
  refine zaY (d := 25) rfl (fun g55 => ?_) (fun g55 => ?_)
  ·
   refine M X X X<|U X zi X zO X X<|M X X X<|zab (j := 3) st53.sub (hc11.up (l47.trans le52)) (us := [.int .i64 (d.at_.chapter), .int .i64 (d.at_.line), .int .i64 (d.at_.word)]) X X zaD zO X X X<|M X X X<|zy st53.sub (hc38.up (le43.trans le52)) X zaD zO X X<|M X X X<|zq X X (zge X X zeb (Tryz.eq_Place d.at_ zdB))<|zaf (v := (.bool _)) X X X<|zai X X ?_
   refine zaB (d := 31) rfl (fun g56 => ?_) (fun g56 => ?_)
   ·
    refine M X X X<|U X zi X zT X X<|M X X X<|zab (j := 6) st53.sub (hc11.up (l47.trans le52)) (us := [strV (d.to.stem), .int .u8 (d.to.mark)]) X X zbl zT X X X<|M X X X<|zn st53 X X X Tryz.call147 X (zeK st53.sub (hd := d.to) zba t_u8)<|fun r57 w58 h59 le60 st61 q62=> ?_
    obtain rfl := q62
    refine zaf (v := (.bool _)) X X X<|zai X X ?_
    refine zaY (d := 36) rfl (fun g63 => ?_) (fun g63 => ?_)
    ·
     refine M X X X<|U X zi X zr X X<|M X X X<|E (j := 8) st61.sub (hc11.up ((l47.trans le52).trans le60)) X X X zN X<|M X X X<|zee X X X<|zaf (v := (.bool _)) X X X<|zJ X X<|Y<|zB<|zI<|zd<|zc zcc ?_
     refine ⟨h59, _, rfl, st61.done, ?_⟩
     refine zw ?_
     simp_all [zaq]
    refine Z X X X X X<|Z X X X X X<|Z X X X X X<|zX (v := (.bool _)) X X X<|zJ X X<|Y<|zB<|zI<|zd<|zc zcc ?_
    refine ⟨h59, _, rfl, st61.done, ?_⟩
    refine zw ?_
    simp_all [zaq]
   refine Z X X X X X<|Z X X X X X<|Z X X X X X<|zX (v := (.bool _)) X X X<|zai X X<|Z X X X X X<|Z X X X X X<|Z X X X X X<|zX (v := (.bool _)) X X X<|zJ X X<|Y<|zB<|zI<|zd<|zc zcc ?_
   refine ⟨h51, _, rfl, st53.done, ?_⟩
   refine zw ?_
   simp_all [zaq]
  refine Z X X X X X<|Z X X X X X<|Z X X X X X<|Z X X X X X<|zX (v := (.bool _)) X X X<|zai X X<|Z X X X X X<|Z X X X X X<|Z X X X X X<|zX (v := (.bool _)) X X X<|zai X X<|Z X X X X X<|Z X X X X X<|Z X X X X X<|zX (v := (.bool _)) X X X<|zJ X X<|Y<|zB<|zI<|zd<|zc zcc ?_
  refine ⟨h51, _, rfl, st53.done, ?_⟩
  refine zw ?_
  simp_all [zaq]
 refine W.sr<|zee X X X<|zJ X X<|Y ?_
 refine zH rfl (fun c64 => ?_) (fun c64 => ?_)
 ·
  refine W.sr<|U X zi X zW X X<|E (j := 2) st46.sub (hc11.up l47) X X X zaw X<|zn st46 X X X Tryz.call191 X (zeL st46.sub _ zba)<|fun r65 w66 h67 le68 st69 q70=> ?_
  obtain rfl := q70
  refine zai X X ?_
  refine zaY (d := 46) rfl (fun g71 => ?_) (fun g71 => ?_)
  ·
   refine M X X X<|zai X X<|zaf (v := (.bool _)) X X X<|zai X X ?_
   refine zaY (d := 49) rfl (fun g72 => ?_) (fun g72 => ?_)
   ·
    refine M X X X<|U X zi X zT X X<|M X X X<|zab (j := 6) st69.sub (hc11.up (l47.trans le68)) (us := [strV (d.to.stem), .int .u8 (d.to.mark)]) X X zbl zT X X X<|M X X X<|zn st69 X X X Tryz.call147 X (zeK st69.sub (hd := d.to) zba t_u8)<|fun r73 w74 h75 le76 st77 q78=> ?_
    obtain rfl := q78
    refine zaf (v := (.bool _)) X X X<|zai X X ?_
    refine zaY (d := 54) rfl (fun g79 => ?_) (fun g79 => ?_)
    ·
     refine M X X X<|U X zi X zr X X<|M X X X<|E (j := 8) st77.sub (hc11.up ((l47.trans le68).trans le76)) X X X zN X<|M X X X<|zee X X X<|zaf (v := (.bool _)) X X X<|zJ X X<|Y<|zB<|zI<|zd<|zc zcc ?_
     refine ⟨h75, _, rfl, st77.done, ?_⟩
     refine zw ?_
     simp_all [zaq]
    refine Z X X X X X<|Z X X X X X<|Z X X X X X<|zX (v := (.bool _)) X X X<|zJ X X<|Y<|zB<|zI<|zd<|zc zcc ?_
    refine ⟨h75, _, rfl, st77.done, ?_⟩
    refine zw ?_
    simp_all [zaq]
   refine Z X X X X X<|Z X X X X X<|Z X X X X X<|zX (v := (.bool _)) X X X<|zai X X<|Z X X X X X<|Z X X X X X<|Z X X X X X<|zX (v := (.bool _)) X X X<|zJ X X<|Y<|zB<|zI<|zd<|zc zcc ?_
   refine ⟨h67, _, rfl, st69.done, ?_⟩
   refine zw ?_
   simp_all [zaq]
  refine Z X X X X X<|zX (v := (.bool _)) X X X<|zai X X<|Z X X X X X<|Z X X X X X<|Z X X X X X<|zX (v := (.bool _)) X X X<|zai X X<|Z X X X X X<|Z X X X X X<|Z X X X X X<|zX (v := (.bool _)) X X X<|zJ X X<|Y<|zB<|zI<|zd<|zc zcc ?_
  refine ⟨h67, _, rfl, st69.done, ?_⟩
  refine zw ?_
  simp_all [zaq]
 refine W.sr<|zee X X X<|zJ X X<|Y ?_
 refine zH rfl (fun c80 => ?_) (fun c80 => ?_)
 ·
  refine W.sr<|U X zi X zW X X<|E (j := 2) st46.sub (hc11.up l47) X X X zaw X<|zhq X X X<|zai X X ?_
  refine zaB (d := 64) rfl (fun g81 => ?_) (fun g81 => ?_)
  ·
   refine M X X X<|zai X X<|zaf (v := (.bool _)) X X X<|zai X X ?_
   refine zaY (d := 67) rfl (fun g82 => ?_) (fun g82 => ?_)
   ·
    refine M X X X<|U X zi X zT X X<|M X X X<|zab (j := 6) st46.sub (hc11.up l47) (us := [strV (d.to.stem), .int .u8 (d.to.mark)]) X X zbl zT X X X<|M X X X<|zn st46 X X X Tryz.call147 X (zeK st46.sub (hd := d.to) zba t_u8)<|fun r83 w84 h85 le86 st87 q88=> ?_
    obtain rfl := q88
    refine zaf (v := (.bool _)) X X X<|zai X X ?_
    refine zaY (d := 72) rfl (fun g89 => ?_) (fun g89 => ?_)
    ·
     refine M X X X<|U X zi X zr X X<|M X X X<|E (j := 8) st87.sub (hc11.up (l47.trans le86)) X X X zN X<|M X X X<|zee X X X<|zaf (v := (.bool _)) X X X<|zJ X X<|Y<|zB<|zI<|zd<|zc zcc ?_
     refine ⟨h85, _, rfl, st87.done, ?_⟩
     refine zw ?_
     simp_all [zaq]
    refine Z X X X X X<|Z X X X X X<|Z X X X X X<|zX (v := (.bool _)) X X X<|zJ X X<|Y<|zB<|zI<|zd<|zc zcc ?_
    refine ⟨h85, _, rfl, st87.done, ?_⟩
    refine zw ?_
    simp_all [zaq]
   refine Z X X X X X<|Z X X X X X<|Z X X X X X<|zX (v := (.bool _)) X X X<|zai X X<|Z X X X X X<|Z X X X X X<|Z X X X X X<|zX (v := (.bool _)) X X X<|zJ X X<|Y<|zB<|zI<|zd<|zc zcc ?_
   refine ⟨h42, _, rfl, st46.done, ?_⟩
   refine zw ?_
   simp_all [zaq]
  refine Z X X X X X<|zX (v := (.bool _)) X X X<|zai X X<|Z X X X X X<|Z X X X X X<|Z X X X X X<|zX (v := (.bool _)) X X X<|zai X X<|Z X X X X X<|Z X X X X X<|Z X X X X X<|zX (v := (.bool _)) X X X<|zJ X X<|Y<|zB<|zI<|zd<|zc zcc ?_
  refine ⟨h42, _, rfl, st46.done, ?_⟩
  refine zw ?_
  simp_all [zaq]
 refine W.sr<|zee X X X<|zJ X X<|Y ?_
 refine zH rfl (fun c90 => ?_) (fun c90 => ?_)
 ·
  refine W.sr<|U X zi X zW X X<|E (j := 2) st46.sub (hc11.up l47) X X X zaw X<|zhq X X X<|zai X X ?_
  refine zaB (d := 82) rfl (fun g91 => ?_) (fun g91 => ?_)
  ·
   refine M X X X<|U X zi X zO X X<|M X X X<|zab (j := 3) st46.sub (hc11.up l47) (us := [.int .i64 (d.at_.chapter), .int .i64 (d.at_.line), .int .i64 (d.at_.word)]) X X zaD zO X X X<|M X X X<|zy st46.sub (hc38.up le43) X zaD zO X X<|M X X X<|zq X X (zge X X zeb (Tryz.eq_Place d.at_ zdB))<|zaf (v := (.bool _)) X X X<|zai X X ?_
   refine zaB (d := 88) rfl (fun g92 => ?_) (fun g92 => ?_)
   ·
    refine M X X X<|U X zi X zT X X<|M X X X<|zab (j := 6) st46.sub (hc11.up l47) (us := [strV (d.to.stem), .int .u8 (d.to.mark)]) X X zbl zT X X X<|M X X X<|zy st46.sub hc45 X zbl zT X X<|M X X X<|zq X X (zge X X zea (Tryz.eq_Head d.to zdc))<|zaf (v := (.bool _)) X X X<|zai X X ?_
    refine zaB (d := 94) rfl (fun g93 => ?_) (fun g93 => ?_)
    ·
     refine M X X X<|U X zi X zr X X<|M X X X<|E (j := 8) st46.sub (hc11.up l47) X X X zN X<|M X X X<|U X zi X zr X X<|M X X X<|E (j := 0) st46.sub (hc11.up l47) X X X zN X<|M X X X<|zfu X X t_om X<|M X X X<|zn st46 X X X Tryz.call192 X (zdw st46.sub _ _ _)<|fun r94 w95 h96 le97 st98 q99=> ?_
     obtain rfl := q99
     refine zaf (v := (.bool _)) X X X<|zJ X X<|Y<|zB<|zI<|zd<|zc zcc ?_
     refine ⟨h96, _, rfl, st98.done, ?_⟩
     refine zw ?_
     simp_all [zaq]
    refine Z X X X X X<|Z X X X X X<|Z X X X X X<|Z X X X X X<|Z X X X X X<|Z X X X X X<|zX (v := (.bool _)) X X X<|zJ X X<|Y<|zB<|zI<|zd<|zc zcc ?_
    refine ⟨h42, _, rfl, st46.done, ?_⟩
    refine zw ?_
    simp_all [zaq]
   refine Z X X X X X<|Z X X X X X<|Z X X X X X<|Z X X X X X<|zX (v := (.bool _)) X X X<|zai X X<|Z X X X X X<|Z X X X X X<|Z X X X X X<|Z X X X X X<|Z X X X X X<|Z X X X X X<|zX (v := (.bool _)) X X X<|zJ X X<|Y<|zB<|zI<|zd<|zc zcc ?_
   refine ⟨h42, _, rfl, st46.done, ?_⟩
   refine zw ?_
   simp_all [zaq]
  refine Z X X X X X<|Z X X X X X<|Z X X X X X<|Z X X X X X<|zX (v := (.bool _)) X X X<|zai X X<|Z X X X X X<|Z X X X X X<|Z X X X X X<|Z X X X X X<|zX (v := (.bool _)) X X X<|zai X X<|Z X X X X X<|Z X X X X X<|Z X X X X X<|Z X X X X X<|Z X X X X X<|Z X X X X X<|zX (v := (.bool _)) X X X<|zJ X X<|Y<|zB<|zI<|zd<|zc zcc ?_
  refine ⟨h42, _, rfl, st46.done, ?_⟩
  refine zw ?_
  simp_all [zaq]
 refine zC<|zP<|O<|W.sr<|zJ X X<|Y<|zB<|zc zcc ?_
 refine ⟨h42, _, rfl, st46.done, ?_⟩
 refine zw ?_
 simp_all [zaq]
theorem zgy {h : Heap} {w : World} (hs : Sub h w) {t : Text} {t_v0 : Value} (t_f0 : Sl LChapter h t_v0 t.chapters) {x : Lexicon} {x_v0 : Value} (x_f0 : Sl LRule h x_v0 x.rules) {x_v1 : Value} (x_f1 : Sl LDecision h x_v1 x.decisions) : Calls Tryz.prog 116 #[.agg #[t_v0], .agg #[x_v0, x_v1]] w (Rets h w (fun _ _ res_ => res_ = .bool (zck t x))) := by
 refine zS (n := 65) Tryz.func116 X X X<|have st0:=t_s0 hs;have t_f0_b:=t_f0.le;have x_f0_b:=x_f0.le;have x_f1_b:=x_f1.le;W.sr<|zG st0 (cs := [t_v0]) X X X<|fun b1 w2 h3 le4 hc5 st6=>zG st6 (cs := [x_v0, x_v1]) X X X<|fun b7 w8 h9 le10 hc11 st12=>zJ X X<|Y<|zj<|W.sr<|U X zQ X zbP X X<|E (j := 0) st12.sub hc11 X X X zcs X<|have l13:=le4.trans le10;zaJ (x_f0.up l13) X zaX X<|zdr X X X<|zai X X ?_
 refine zaB (d := 12) rfl (fun g14 => ?_) (fun g14 => ?_)
 ·
  refine Z X X X X X<|Z X X X X X<|Z X X X X X<|Z X X X X X<|zaf (v := (.bool _)) X X X<|Y ?_
  refine zad rfl (fun c15 => ?_) (fun c15 => ?_)
  ·
   refine W.sr<|zJ X X<|Y<|zB<|zd<|zc zfr ?_
   refine ⟨h9, _, rfl, st12.done, ?_⟩
   refine zw ?_
   have q := g14
   simp [zck]
   intros
   omega
  cases c15
 refine M X X X<|U X zQ X zaS X X<|M X X X<|E (j := 1) st12.sub hc11 X X X zbr X<|M X X X<|zaJ (x_f1.up l13) X zU X<|M X X X<|zdr X X X<|zX (v := (.bool _)) X X X<|Y ?_
 refine zH rfl (fun c16 => ?_) (fun c16 => ?_)
 ·
  refine W.sr<|zJ X X<|Y<|zB<|zd<|zc zfr ?_
  refine ⟨h9, _, rfl, st12.done, ?_⟩
  refine zw ?_
  have q := c16
  simp [zck]
  intros
  omega
 refine zC<|O<|zj<|W.sr<|zz X X<|Y<|zF ?_
 refine zat ([4, 5] ++ t_rg 18 14) (G := Nat × Heap) (fun ⟨i, h17⟩ => [(5, .int .i64 (i : Int))]) (fun ⟨i, h17⟩ w' => Le h9 h17 ∧ St h w h17 w' [] ∧ (i ≤ x.rules.length) ∧ ((x.rules.take i).all zgt = true)) (fun ⟨i, h17⟩ => x.rules.length - i) ⟨0, h9⟩ ⟨rfl, trivial⟩ ⟨Le.refl _, st12, zaM, zaM⟩ ?_
 rintro ⟨i, h17⟩ _ w20 ⟨le18, st19, hi, hR⟩
 refine zj<|W.sr<|zk X X<|U X zQ X zbP X X<|E (j := 0) st19.sub (hc11.up le18) X X X zcs X<|have l21:=l13.trans le18;zaJ (x_f0.up l21) X zaX X<|zaV X X X<|Y ?_
 refine zH rfl (fun c22 => ?_) (fun c22 => ?_)
 ·
  refine zC<|O<|zj<|zF<|W.sr<|U X zQ X zbP X X<|E (j := 0) st19.sub (hc11.up le18) X X X zcs X<|zk X X ?_
  obtain ⟨r, hr⟩ : ∃ y_, (x.rules)[i]? = some y_ := t_ge (by omega)
  obtain ⟨b23, o24, _, he26, hc25, hr_r⟩ := Sl.elem (x_f0.up l21) hr
  obtain ⟨rfl, ls27, ls28⟩ := hr_r
  simp only [big] at ls27
  simp only [big] at ls28
  refine zV he26 X X (hk := X) (hu := zaX) (hz := zcr) X<|zy st19.sub hc25 X zgK zcr X X<|zn st19 X X X Tryz.call158 X (c_postilref04_Rule st19.sub (r := r) zba zba)<|fun r29 w30 h31 le32 st33 q34=> ?_
  obtain rfl := q34
  refine zbQ X X<|Y ?_
  refine zad rfl (fun c35 => ?_) (fun c35 => ?_)
  ·
   refine W.sr<|zJ X X<|Y<|zB<|zI<|zd<|zd<|zI<|zd<|zc zfr ?_
   refine ⟨h31, _, rfl, st33.done, ?_⟩
   refine zw ?_
   have q := zcC (p := zgt) hr (by simpa using c35)
   simp [zck, q]
  refine zC<|zP<|O<|zo<|zk X X<|zaP X X t_om X<|zz X X<|Y ?_
  refine ⟨⟨i + 1, h31⟩, ⟨rfl, trivial⟩, ?_, ⟨(le18.trans le32), st33, ?_, ?_⟩, ?_⟩
  ·exact zav
  ·first | omega | (simp; omega)
  ·exact zbY hR hr (by simpa using c35)
  show x.rules.length - ((i + 1)) < x.rules.length - i
  omega
 refine zaC<|zh<|zh<|zah<|O<|zj<|W.sr<|zz X X<|Y<|zF ?_
 refine zat ([4, 6, 7] ++ t_rg 32 33) (G := Nat × Heap) (fun ⟨i, h36⟩ => [(6, .int .i64 (i : Int))]) (fun ⟨i, h36⟩ w' => Le h17 h36 ∧ St h w h36 w' [] ∧ (i ≤ x.decisions.length) ∧ ((x.decisions.take i).all (zaq t) = true) ∧ (((x.decisions.take i).map (·.number)).Nodup)) (fun ⟨i, h36⟩ => x.decisions.length - i) ⟨0, h17⟩ ⟨rfl, trivial⟩ ⟨Le.refl _, st19, zaM, zaM, zaM⟩ ?_
 rintro ⟨i, h36⟩ _ w39 ⟨le37, st38, hi, hD, hN⟩
 refine zj<|W.sr<|zk X X<|U X zQ X zaS X X<|E (j := 1) st38.sub (hc11.up (le18.trans le37)) X X X zbr X<|have l40:=l21.trans le37;zaJ (x_f1.up l40) X zU X<|zaV X X X<|Y ?_
 refine zH rfl (fun c41 => ?_) (fun c41 => ?_)
 ·
  refine zC<|O<|zj<|zF<|zj<|zj<|zbj Tryz.mixed t_kr (Cls h36 _) (Cls.drew st38)<|zl X X (fun _ hC => (zZ hC.sub (hc5.up ((le10.trans le18).trans le37)) X zaO zac X))<|zD X zQ X zaS X X<|zl X X (fun _ hC => (ze (j := 1) hC.sub (hc11.up (le18.trans le37)) X X X zbr))<|zbJ X X ?_
  obtain ⟨d, hd⟩ : ∃ y_, (x.decisions)[i]? = some y_ := t_ge (by omega)
  obtain ⟨b42, o43, _, he45, hc44, hr_d⟩ := Sl.elem (x_f1.up l40) hd
  obtain ⟨rfl, lu46, ls47, ls48, lu49⟩ := hr_d
  simp only [big] at ls47
  simp only [big] at ls48
  refine zaG he45 X X (hk := X) (hu := zU) (hz := zK) X<|zl X X (fun _ hC => (zZ hC.sub hc44 X zaI zK X))<|zbU X X (fun _ => zbc X Tryz.call159 X) (fun _ hC => Rets.quiet hC (ziL hC.sub (t := t) (t_f0.up l40) (d := d) t_u8 zba zba t_u8))<|zhO X X<|zaN ?_
  rintro w50 ⟨h51, s52⟩
  have st53 := st38.call0 s52
  refine O ?_
  refine zad rfl (fun c54 => ?_) (fun c54 => ?_)
  ·
   refine W.sr<|zJ X X<|Y<|zB<|zd<|zI<|zd<|zd<|zI<|zd<|zc zfr ?_
   refine ⟨h51, _, rfl, st53.done, ?_⟩
   refine zw ?_
   have q := zcC (p := zaq t) hd (by simpa using c54)
   simp [zck, q]
  refine zC<|O<|W.sr<|zz X X<|Y<|zF ?_
  refine zat ([4, 7] ++ t_rg 47 18) (G := Nat × Heap) (fun ⟨k, h55⟩ => [(7, .int .i64 (k : Int))]) (fun ⟨k, h55⟩ w' => Le h51 h55 ∧ St h w h55 w' [] ∧ (k ≤ i) ∧ (∀ j c2, j < k → x.decisions[j]? = some c2 → c2.number ≠ d.number)) (fun ⟨k, h55⟩ => i - k) ⟨0, h51⟩ ⟨rfl, trivial⟩ ⟨Le.refl _, st53, zaM, (by intro j _ hj; omega)⟩ ?_
  rintro ⟨k, h55⟩ _ w58 ⟨le56, st57, hk, hq⟩
  refine zj<|W.sr<|zk X X<|zk X X<|zaV X X X<|Y ?_
  refine zH rfl (fun c59 => ?_) (fun c59 => ?_)
  ·
   refine zC<|O<|zj<|zF<|zj<|zbj Tryz.mixed t_kr (Cls h55 _) (Cls.drew st57)<|zD X zQ X zaS X X<|have l60:=((le18.trans le37).trans s52.le).trans le56;zl X X (fun _ hC => (ze (j := 1) hC.sub (hc11.up l60) X X X zbr))<|zbJ X X ?_
   obtain ⟨e, he⟩ : ∃ y_, (x.decisions)[k]? = some y_ := t_ge (by omega)
   have l65 := (l40.trans s52.le).trans le56
   obtain ⟨b61, o62, _, he64, hc63, hr_e⟩ := Sl.elem (x_f1.up l65) he
   obtain ⟨rfl, lu66, ls67, ls68, lu69⟩ := hr_e
   simp only [big] at ls67
   simp only [big] at ls68
   refine zaG he64 X X (hk := X) (hu := zU) (hz := zK) X<|zD X zi X zr X X<|zl X X (fun _ hC => (ze (j := 0) hC.sub hc63 X X X zN))<|zD X zQ X zaS X X<|zl X X (fun _ hC => (ze (j := 1) hC.sub (hc11.up l60) X X X zbr))<|zbJ X X<|zaG he45 X X (hk := X) (hu := zU) (hz := zK) X<|zD X zi X zr X X<|zl X X (fun _ hC => (ze (j := 0) hC.sub (hc44.up (s52.le.trans le56)) X X X zN))<|u_eql X X X<|zaN ?_
   rintro w70 ⟨h71, s72⟩
   have st73 := st57.call0 s72
   refine O ?_
   refine zH rfl (fun c74 => ?_) (fun c74 => ?_)
   ·
    refine W.sr<|zJ X X<|Y<|zB<|zI<|zd<|zd<|zI<|zI<|zd<|zd<|zI<|zd<|zc zfr ?_
    refine ⟨h71, _, rfl, st73.done, ?_⟩
    refine zw ?_
    have q := zik (f := (·.number)) he hd (by omega) (by assumption)
    simp [zck, q]
   refine zC<|zP<|O<|zo<|zk X X<|zaP X X t_om X<|zz X X<|Y ?_
   refine ⟨⟨k + 1, h71⟩, ⟨rfl, trivial⟩, ?_, ⟨(le56.trans s72.le), st73, ?_, ?_⟩, ?_⟩
   ·exact zav
   ·first | omega | (simp; omega)
   ·intro j c2 h1 h2
    rcases Nat.lt_or_ge j k with h3 | h3
    ·exact hq j c2 h3 h2
    ·obtain rfl : j = k := by omega
     rw [h2] at he; cases he; assumption
   show i - ((k + 1)) < i - k
   omega
  refine zaC<|zh<|zh<|zah<|zP<|O<|zo<|zk X X<|zaP X X t_om X<|zz X X<|Y ?_
  have HD : zaq t d = true := by simpa using c54
  refine ⟨⟨i + 1, h55⟩, ⟨rfl, trivial⟩, ?_, ⟨((le37.trans s52.le).trans le56), st57, ?_, ?_, ?_⟩, ?_⟩
  ·exact zav
  ·first | omega | (simp; omega)
  ·exact zbY hD hd HD
  ·exact nodup_take_succ hN hd (by omega) (fun j c2 h1 h2 => hq j c2 (by omega) h2)
  show x.decisions.length - ((i + 1)) < x.decisions.length - i
  omega
 refine zaC<|zh<|zh<|zah<|O<|W.sr<|zJ X X<|Y<|zB<|zc zfr ?_
 refine ⟨h36, _, rfl, st38.done, ?_⟩
 refine zw ?_
 have q1 := zcN hR (by omega)
 have q2 := zcN hD (by omega)
 have q3 : x.decisions.take i = x.decisions := List.take_of_length_le (by omega)
 rw [q3] at hN
 simp [zck, q1, q2, hN]
 omega
theorem zet {h : Heap} {w : World} (hs : Sub h w) {t : Text} {t_v0 : Value} (t_f0 : Sl LChapter h t_v0 t.chapters) {x : Lexicon} {x_v0 : Value} (x_f0 : Sl LRule h x_v0 x.rules) {x_v1 : Value} (x_f1 : Sl LDecision h x_v1 x.decisions) : Calls Tryz.prog 104 #[.agg #[t_v0], .agg #[x_v0, x_v1]] w (Rets h w (fun _ _ res_ => res_ = .int .i64 (zaQ t x))) := by
 refine zS (n := 15) Tryz.func104 X X X<|have st0:=t_s0 hs;have t_f0_b:=t_f0.le;have x_f0_b:=x_f0.le;have x_f1_b:=x_f1.le;W.sr<|zG st0 (cs := [t_v0]) X X X<|fun b1 w2 h3 le4 hc5 st6=>zG st6 (cs := [x_v0, x_v1]) X X X<|fun b7 w8 h9 le10 hc11 st12=>zz X X<|Y<|zj<|W.sr<|zy st12.sub (hc5.up le10) X zaO zac X X<|have l13:=le4.trans le10;zn st12 X X X Tryz.call145 X (c_postilref01_Check st12.sub (t := t) (t_f0.up l13))<|fun r14 w15 h16 le17 st18 q19=> ?_
 obtain rfl := q19
 refine zz X X<|Y<|W.sr<|zk X X<|zcF X X X<|Y ?_
 refine zH rfl (fun c20 => ?_) (fun c20 => ?_)
 ·
  refine W.sr<|zk X X<|zz X X<|Y<|zB<|zd<|zc Tryz.results104 ?_
  refine ⟨h16, _, rfl, st18.done, ?_⟩
  refine zar ?_
  simp_all [zaQ]
 refine zC<|O<|zj<|W.sr<|zy st18.sub (hc5.up (le10.trans le17)) X zaO zac X X<|zy st18.sub (hc11.up le17) X zaK zR X X<|have l21:=l13.trans le17;zn st18 X X X Tryz.call116 X (zgy st18.sub (t := t) (t_f0.up l21) (x := x) (x_f0.up l21) (x_f1.up l21))<|fun r22 w23 h24 le25 st26 q27=> ?_
 obtain rfl := q27
 refine zbQ X X<|Y ?_
 refine zad rfl (fun c28 => ?_) (fun c28 => ?_)
 ·
  refine W.sr<|zz X X<|Y<|zB<|zd<|zc Tryz.results104 ?_
  refine ⟨h24, _, rfl, st26.done, ?_⟩
  refine zar ?_
  simp_all [zaQ]
 refine zC<|O<|W.sr<|zz X X<|Y<|zB<|zc Tryz.results104 ?_
 refine ⟨h24, _, rfl, st26.done, ?_⟩
 refine zar ?_
 simp_all [zaQ]
end Go.Pk

namespace Go.Pk
open Go Go.RowKit Go.Proofs
theorem c_postilref04_Made {h : Heap} {w : World} (hs : Sub h w) {r : Rule} (r_l1 : r.cut.length ≤ 281474976710656) (r_l2 : r.put.length ≤ 281474976710656) (word : Str) (word_le : word.length ≤ 281474976710656) (hr1 : 1 ≤ r.least) : Calls Tryz.prog 204 #[.agg #[strV r.cut, strV r.put, .int .i64 r.least], strV word] w (Rets h w (fun _ _ res_ => res_ = .tuple #[strV ((made r word).getD []), .bool ((made r word).isSome)])) := by
 refine zS (n := 39) Tryz.func204 X X X<|have st0:=t_s0 hs;W.sr<|zG st0 (cs := [strV (r.cut), strV (r.put), .int .i64 (r.least)]) X X X<|fun b1 w2 h3 le4 hc5 st6=>zdR X X<|zJ X X<|Y<|W.sr<|zbX X X<|zco X zaz X<|U X zbo X zW X X<|E (j := 0) st6.sub hc5 X X X zaw X<|zco X zaz X<|zfu X X t_om X<|zz X X<|Y<|zj<|zj<|zbj Tryz.mixed t_kr (Cls h3 _) (Cls.drew st6)<|zbJ X X<|zD X zbo X zr X X<|zl X X (fun _ hC => (ze (j := 2) hC.sub hc5 X X X zN))<|u_lss X X X<|zdS X X ?_
 refine zcP (d := 17) rfl (fun g7 => ?_) (fun g7 => ?_)
 ·
  refine zb X X X X X<|zb X X X X X<|zb X X X X X<|zb X X X X X<|zb X X X X X<|zb X X X X X<|zcK (v := (.bool _)) X X X<|zdS X X<|zb X X X X X<|zb X X X X X<|zb X X X X X<|zb X X X X X<|zb X X X X X<|zb X X X X X<|zcK (v := (.bool _)) X X X<|zaN ?_
  rintro w8 ⟨h9, s10⟩
  have st11 := st6.call0 s10
  refine O ?_
  refine zad rfl (fun c12 => ?_) (fun c12 => ?_)
  ·
   refine W.sr<|zdR X X<|zJ X X<|Y<|zB<|zd<|zbs Tryz.results204 ?_
   have q : made r word = none := by
    unfold made
    rw [if_neg]
    rintro ⟨q1, q2, q3, q4⟩
    first | omega | exact absurd q3 (by assumption)
   refine ⟨h9, _, rfl, st11.done, ?_⟩
   refine tup2 (zgB ?_) (zw ?_)
   all_goals simp [q]
  cases c12
 refine zg X X X<|u_mvS X X<|zg X X X<|zbJ X X<|zg X X X ?_
 refine zl rfl rfl (fun _ _ => (r_slice_from rfl rfl (hk := (show _ = ((word.length - r.cut.length : Nat) : Int) by omega)) (hle := by omega) (hu := zaz))) ?_
 refine zg X X X<|zD X zbo X zW X X<|zg X X X<|zl X X (fun _ hC => (ze (j := 0) hC.sub hc5 X X X zaw))<|zg X X X<|zl X X (fun _ _ => (r_sneq X X))<|zcL (v := (.bool _)) X X X<|zdS X X ?_
 refine zcP (d := 25) rfl (fun g13 => ?_) (fun g13 => ?_)
 ·
  refine zb X X X X X<|zb X X X X X<|zb X X X X X<|zb X X X X X<|zb X X X X X<|zb X X X X X<|zcK (v := (.bool _)) X X X<|zaN ?_
  rintro w14 ⟨h15, s16⟩
  have st17 := st6.call0 s16
  refine O ?_
  refine zad rfl (fun c18 => ?_) (fun c18 => ?_)
  ·
   refine W.sr<|zdR X X<|zJ X X<|Y<|zB<|zd<|zbs Tryz.results204 ?_
   have q : made r word = none := by
    unfold made
    rw [if_neg]
    rintro ⟨q1, q2, q3, q4⟩
    first | omega | exact absurd q3 (by assumption)
   refine ⟨h15, _, rfl, st17.done, ?_⟩
   refine tup2 (zgB ?_) (zw ?_)
   all_goals simp [q]
  cases c18
 refine zg X X X<|zbJ X X<|zg X X X<|zD X zbo X zW X X<|zg X X X<|zl X X (fun _ hC => (ze (j := 1) hC.sub hc5 X X X zaw))<|zg X X X<|u_len_str X zaz X<|zg X X X<|u_add X X t_om X<|zg X X X<|u_gtr X X X<|zcL (v := (.bool _)) X X X<|zaN ?_
 rintro w19 ⟨h20, s21⟩
 have st22 := st6.call0 s21
 refine O ?_
 refine zH rfl (fun c23 => ?_) (fun c23 => ?_)
 ·
  refine W.sr<|zdR X X<|zJ X X<|Y<|zB<|zd<|zbs Tryz.results204 ?_
  have q : made r word = none := by
   unfold made
   rw [if_neg]
   rintro ⟨q1, q2, q3, q4⟩
   first | omega | exact absurd q3 (by assumption)
  refine ⟨h20, _, rfl, st22.done, ?_⟩
  refine tup2 (zgB ?_) (zw ?_)
  all_goals simp [q]
 refine zC<|O<|zj<|zbj Tryz.mixed t_kr (Cls h20 _) (Cls.drew st22)<|u_mvS X X<|zbJ X X ?_
 refine zl rfl rfl (fun _ _ => (r_slice_to rfl rfl (hk := (show _ = ((word.length - r.cut.length : Nat) : Int) by omega)) (hle := by omega) (hu := zaz))) ?_
 refine zD X zbo X zW X X<|zl X X (fun _ hC => (ze (j := 1) hC.sub (hc5.up s21.le) X X X zaw))<|zl X X (fun _ _ => (r_sadd X X t_om))<|u_asS X X<|u_asB X X<|zaN ?_
 rintro w24 ⟨h25, s26⟩
 have st27 := st22.call0 s26
 refine O<|zB<|zbs Tryz.results204 ?_
 have q : made r word = some (word.take (word.length - r.cut.length) ++ r.put) := by
  unfold made
  rw [if_pos ⟨by omega, by omega, by simpa using g13, by omega⟩]
 refine ⟨h25, _, rfl, st27.done, ?_⟩
 refine tup2 (zgB ?_) (zw ?_)
 all_goals simp [q]
theorem c_postilref04_steps {h : Heap} {w : World} (hs : Sub h w) {x : Lexicon} {x_v0 : Value} (x_f0 : Sl LRule h x_v0 x.rules) {x_v1 : Value} (x_f1 : Sl LDecision h x_v1 x.decisions) (word : Str) (word_le : word.length ≤ 281474976710656) (hx : ∀ r ∈ x.rules, 1 ≤ r.least) (hw : word.length ≤ 12) : Calls Tryz.prog 154 #[.agg #[x_v0, x_v1], strV word] w (Rets h w (fun h' _ res_ => ∃ u0, res_ = u0 ∧ Sl LStr h' u0 (zcZ x.rules 4 word))) := by
 refine zS (n := 49) Tryz.func154 X X X<|have st0:=t_s0 hs;have x_f0_b:=x_f0.le;have x_f1_b:=x_f1.le;W.sr<|zG st0 (cs := [x_v0, x_v1]) X X X<|fun b1 w2 h3 le4 hc5 st6=>zcz X X<|Y<|W.sr<|zbX X X<|OpsL.sliceO (L := LStr) (xs := [word]) (cs := [strV word]) st6 (Enc.cons (L := LStr) (vs := [strV word]) (x := word) (h := h3) (⟨rfl, zba⟩) Enc.nil) X X X zA Tryz.info9 X X X X t_kr<|fun v7 o11 w8 f9 st10=>zaj (v := v7) X X<|Y<|zj<|W.sr<|zz X X<|Y<|zF ?_
 refine zat (t_rg 5 6 ++ t_rg 13 35) (G := Nat × List Str × Str × Value × List (Nat × Obj) × Heap) (fun ⟨turn, ini, la, v_5, o_5, h12⟩ => [(5, v_5), (6, .int .i64 (turn : Int))]) (fun ⟨turn, ini, la, v_5, o_5, h12⟩ w' => Le h3 h12 ∧ St h w h12 w' [o_5] ∧ (OSl LStr 9 h12 v_5 (ini ++ [la]) o_5) ∧ (turn ≤ 4) ∧ (ini.length = turn) ∧ (la.length ≤ 12) ∧ (zcZ x.rules 4 word = ini ++ zcZ x.rules (4 - turn) la)) (fun ⟨turn, ini, la, v_5, o_5, h12⟩ => 4 - turn) ⟨0, [], word, v7, o11, h3⟩ ⟨rfl, rfl, trivial⟩ ⟨Le.refl _, st10, (OSl.to f9 (by rfl)), zaM, zaM, zaM, (by rfl)⟩ ?_
 rintro ⟨turn, ini, la, v_5, o_5, h12⟩ _ w15 ⟨le13, st14, hO_5, ht, hn, hla, hq⟩
 refine zj<|W.sr<|zk X X<|zaV X X X<|Y ?_
 refine zH rfl (fun c16 => ?_) (fun c16 => ?_)
 ·
  refine zC<|O<|zj<|zF<|W.sr<|zdR X X<|Y<|zj<|W.sr<|U X zQ X zbP X X<|E (j := 0) st14.sub (hc5.up le13) X X X zcs X<|have l17:=le4.trans le13;zaJ (x_f0.up l17) X zaX X<|zfu X X t_om X<|zz X X<|Y<|zF ?_
  refine zat ([5, 7, 8, 9, 10] ++ t_rg 21 21) (G := Nat × Str × Value × List (Nat × Obj) × Heap) (fun ⟨m, nx, v_5, o_5, h18⟩ => [(5, v_5), (7, strV nx), (8, .int .i64 ((m : Int) - 1))]) (fun ⟨m, nx, v_5, o_5, h18⟩ w' => Le h12 h18 ∧ St h w h18 w' [o_5] ∧ (OSl LStr 9 h18 v_5 (ini ++ [la]) o_5) ∧ (m ≤ x.rules.length) ∧ (nx.length ≤ 12) ∧ (nx = (zdO (x.rules.drop m) la).getD [])) (fun ⟨m, nx, v_5, o_5, h18⟩ => m) ⟨x.rules.length, [], v_5, o_5, h12⟩ ⟨rfl, rfl, rfl, trivial⟩ ⟨Le.refl _, st14, (OSl.to hO_5 (by rfl)), zaM, zaM, (by simp [zdO])⟩ ?_
  rintro ⟨m, nx, v_5, o_5, h18⟩ _ w21 ⟨le19, st20, hO_5, hm, hl, hnx⟩
  refine zj<|W.sr<|zk X X<|zie X X X<|Y ?_
  refine zH rfl (fun c22 => ?_) (fun c22 => ?_)
  ·
   refine zC<|O<|zj<|zF<|zj<|zbj Tryz.mixed t_kr (Cls h18 _) (Cls.drew st20)<|zD X zQ X zbP X X<|zl X X (fun _ hC => (ze (j := 0) hC.sub (hc5.up (le13.trans le19)) X X X zcs))<|zbJ X X ?_
   obtain ⟨r, hr⟩ : ∃ y_, (x.rules)[m - 1]? = some y_ := t_ge (by omega)
   have l27 := l17.trans le19
   obtain ⟨b23, o24, _, he26, hc25, hr_r⟩ := Sl.elem (x_f0.up l27) hr
   obtain ⟨rfl, ls28, ls29⟩ := hr_r
   simp only [big] at ls28
   simp only [big] at ls29
   refine zl rfl rfl (fun _ _ => (zao he26 rfl rfl (hk := (show _ = ((m - 1 : Nat) : Int) by omega)) (hu := zaX) (hz := zcr))) ?_
   refine zl X X (fun _ hC => (zZ hC.sub hc25 X zgK zcr X))<|zdn (v := v_5) X X<|zdn (v := v_5) X X<|u_len_own hO_5 X zA X<|zig X X t_om X ?_
   obtain ⟨la0, hla0⟩ : ∃ y_, (ini ++ [la])[(ini ++ [la]).length - 1]? = some y_ := t_ge (by simp)
   obtain ⟨b30, o31, cur32, _, e35, he33, hr_la0, hc34⟩ := OSl.elem hO_5 hla0
   subst e35
   obtain ⟨rfl, ls36⟩ := hr_la0
   simp only [big] at ls36
   refine zl rfl rfl (fun _ _ => (zao he33 rfl rfl (hk := (show _ = (((ini ++ [la]).length - 1 : Nat) : Int) by simp)) (hu := zA) (hz := zW))) ?_
   refine zl X X (fun _ hC => (zct (j := 0) (hC.block (st20.get (k := 0) X)) hc34 X X X zaw)) ?_
   refine zbU rfl rfl (fun _ => zbc rfl Tryz.call204 rfl) (fun _ hC => Rets.quiet hC (c_postilref04_Made hC.sub (r := r) zba zba _ zba (by exact hx r (List.mem_of_getElem? hr)))) ?_
   refine u_mvT X X<|u_extract (v := (strV _)) X X X<|u_extract (v := (.bool _)) X X X<|u_asS X X<|u_asB X X<|zaN ?_
   rintro w37 ⟨h38, s39⟩
   have st40 := st20.call0 s39
   refine O<|W.sr<|zai X X<|Y ?_
   refine zad rfl (fun c41 => ?_) (fun c41 => ?_)
   ·
    refine zo<|zbX X X<|zdR X X<|zt<|zP<|O<|zo<|zk X X<|zfu X X t_om X<|zz X X<|Y ?_
    have hE : la0 = la := by simpa using hla0.symm
    have hD := zdM hr
    rw [show m - 1 + 1 = m by omega] at hD
    have hC := c41
    refine ⟨⟨m - 1, (made r la0).getD [], v_5, [(b30, .cells cur32 9)], h38⟩, ⟨rfl, rfl, ?_, trivial⟩, ?_, ⟨(le19.trans s39.le), st40, ?_, ?_, ?_, ?_⟩, ?_⟩
    ·exact zar (by omega)
    ·exact zav
    ·refine OSl.to (hO_5.up s39.le) ?_
     rfl
    ·first | omega | (simp; omega)
    ·cases e : made r la0 with
     | none => simp
     | some q => simpa using made_len e
    ·rw [hD, stepOf_cons, ← hE]; cases e : made r la0 with
     | none => simp [e] at hC
     | some q => simp
    show ((m - 1)) < m
    omega
   refine zC<|zP<|O<|zo<|zk X X<|zfu X X t_om X<|zz X X<|Y ?_
   have hE : la0 = la := by simpa using hla0.symm
   have hD := zdM hr
   rw [show m - 1 + 1 = m by omega] at hD
   have hC := c41
   refine ⟨⟨m - 1, nx, v_5, [(b30, .cells cur32 9)], h38⟩, ⟨rfl, rfl, ?_, trivial⟩, ?_, ⟨(le19.trans s39.le), st40, ?_, ?_, ?_, ?_⟩, ?_⟩
   ·exact zar (by omega)
   ·exact zav
   ·refine OSl.to (hO_5.up s39.le) ?_
    rfl
   ·first | omega | (simp; omega)
   ·first | omega | (simp; omega)
   ·rw [hD, stepOf_cons, ← hE]; cases e : made r la0 with
    | none => simpa [hE] using hnx
    | some q => simp [e] at hC
   show ((m - 1)) < m
   omega
  refine zaC<|zh<|zh<|zah<|O<|zj<|W.sr<|zbX X X<|zhq X X X<|Y ?_
  refine zH rfl (fun c42 => ?_) (fun c42 => ?_)
  ·
   refine zaC<|zh<|zgr X<|zh<|zh<|zah<|O<|W.sr<|zaa (v := v_5) X X<|zaj (v := v_5) X X<|Y<|zB<|zc Tryz.results154 ?_
   obtain ⟨h43, le44, f45, st46⟩ := OSl.freeze (k := 0) st20 hO_5 rfl t_om
   refine ⟨h43, _, rfl, st46.done, ?_⟩
   refine ⟨_, rfl, Sl.to f45 ?_⟩
   have hm0 : m = 0 := by omega
   subst hm0
   have hs0 : zdO x.rules la = none := by
    cases e : zdO x.rules la with
    | none => rfl
    | some q => simp [e] at hnx; exact absurd (hnx.symm.trans c42) (stepOf_pos hx e)
   rw [hq, stepsN_none hs0]
  refine zC<|O<|zo<|zaa (v := v_5) X X<|zbX X X<|zaL (L := LStr) (xs := [nx]) (cs := [strV nx]) st20 (Enc.cons (L := LStr) (vs := [strV nx]) (x := nx) (h := h18) (⟨rfl, zba⟩) Enc.nil) X X X zA Tryz.info9 X X X t_kr<|fun v47 w48 h51 le52 f49 st50=> ?_
  refine zaR (k := 0) (nb := 16) st50 (hO_5.up le52) rfl f49 rfl rfl rfl zA Tryz.info9 rfl rfl rfl (by decide) rfl t_om t_om ?_
  intro v53 o54 w55 _ e56 f57 st58
  subst e56
  refine zaj (v := v53) X X<|zt<|zP<|O<|zo<|zk X X<|zaP X X t_om X<|zz X X<|Y ?_
  have HS : zdO x.rules la = some nx := by
   have hm0 : m = 0 := by omega
   subst hm0
   cases e : zdO x.rules la with
   | none => simp [e] at hnx; exact absurd hnx c42
   | some q => simp [e] at hnx; rw [hnx]
  refine ⟨⟨turn + 1, ini ++ [la], nx, v53, o54, h51⟩, ⟨rfl, rfl, trivial⟩, ?_, ⟨((le13.trans le19).trans le52), st58, ?_, ?_, ?_, ?_, ?_⟩, ?_⟩
  ·exact zav
  ·refine OSl.to f57 ?_
   rfl
  ·first | omega | (simp; omega)
  ·first | omega | (simp; omega)
  ·first | omega | (simp; omega)
  ·rw [hq, stepsN_some (show 4 - turn = (4 - (turn + 1)) + 1 by omega) HS]; simp
  show 4 - ((turn + 1)) < 4 - turn
  omega
 refine zaC<|zh<|zh<|zah<|O<|W.sr<|zaa (v := v_5) X X<|zaj (v := v_5) X X<|Y<|zB<|zc Tryz.results154 ?_
 obtain ⟨h59, le60, f61, st62⟩ := OSl.freeze (k := 0) st14 hO_5 rfl t_om
 refine ⟨h59, _, rfl, st62.done, ?_⟩
 refine ⟨_, rfl, Sl.to f61 ?_⟩
 rw [hq, show 4 - turn = 0 by omega]
 rfl
theorem c_postilref04_stands : ∀ (n_ : Nat) {h : Heap} {w : World} (hs : Sub h w) {x : Lexicon} {x_v0 : Value} (x_f0 : Sl LRule h x_v0 x.rules) {x_v1 : Value} (x_f1 : Sl LDecision h x_v1 x.decisions) {d : Decision} (d_l2 : 0 ≤ d.kind ∧ d.kind ≤ 255) (d_l3 : d.form.length ≤ 281474976710656) (d_l7 : d.to.stem.length ≤ 281474976710656) (d_l8 : 0 ≤ d.to.mark ∧ d.to.mark ≤ 255) (hv : ∀ v ∈ x.decisions, v.number ≤ 999 ∧ (v.kind = 4 → v.of_ < v.number)) (hn : 999 < d.number + n_), Calls Tryz.prog 157 #[.agg #[x_v0, x_v1], .agg #[.int .i64 d.number, .int .u8 d.kind, strV d.form, .int .i64 d.at_.chapter, .int .i64 d.at_.line, .int .i64 d.at_.word, strV d.to.stem, .int .u8 d.to.mark, .int .i64 d.of_]] w (Rets h w (fun _ _ res_ => res_ = .bool (zes x n_ d))) := by
 intro n_
 induction n_ using Nat.strongRecOn with
 | _ n_ ih_ =>
 intro h w hs x x_v0 x_f0 x_v1 x_f1 d d_l2 d_l3 d_l7 d_l8 hv hn
 refine zS (n := 34) Tryz.func157 X X X<|have st0:=t_s0 hs;have x_f0_b:=x_f0.le;have x_f1_b:=x_f1.le;W.sr<|zG st0 (cs := [x_v0, x_v1]) X X X<|fun b1 w2 h3 le4 hc5 st6=>zG st6 (cs := [.int .i64 (d.number), .int .u8 (d.kind), strV (d.form), .int .i64 (d.at_.chapter), .int .i64 (d.at_.line), .int .i64 (d.at_.word), strV (d.to.stem), .int .u8 (d.to.mark), .int .i64 (d.of_)]) X X X<|fun b7 w8 h9 le10 hc11 st12=>zJ X X<|Y<|zj<|W.sr<|zz X X<|Y<|zF ?_
 refine zat (t_rg 4 30) (G := Nat × Heap) (fun ⟨i, h13⟩ => [(5, .int .i64 (i : Int))]) (fun ⟨i, h13⟩ w' => Le h9 h13 ∧ St h w h13 w' [] ∧ (i ≤ x.decisions.length) ∧ ((x.decisions.take i).all (voids x n_ d) = true)) (fun ⟨i, h13⟩ => x.decisions.length - i) ⟨0, h9⟩ ⟨rfl, trivial⟩ ⟨Le.refl _, st12, zaM, zaM⟩ ?_
 rintro ⟨i, h13⟩ _ w16 ⟨le14, st15, hi, hA⟩
 refine zj<|W.sr<|zk X X<|U X zQ X zaS X X<|E (j := 1) st15.sub (hc5.up (le10.trans le14)) X X X zbr X<|have l17:=(le4.trans le10).trans le14;zaJ (x_f1.up l17) X zU X<|zaV X X X<|Y ?_
 refine zH rfl (fun c18 => ?_) (fun c18 => ?_)
 ·
  refine zC<|O<|zj<|zF<|W.sr<|U X zQ X zaS X X<|E (j := 1) st15.sub (hc5.up (le10.trans le14)) X X X zbr X<|zk X X ?_
  obtain ⟨v1, hv1⟩ : ∃ y_, (x.decisions)[i]? = some y_ := t_ge (by omega)
  obtain ⟨b19, o20, _, he22, hc21, hr_v1⟩ := Sl.elem (x_f1.up l17) hv1
  obtain ⟨rfl, lu23, ls24, ls25, lu26⟩ := hr_v1
  simp only [big] at ls24
  simp only [big] at ls25
  refine zV he22 X X (hk := X) (hu := zU) (hz := zK) X<|zy st15.sub hc21 X zaI zK X X<|zae st15 zbD X X<|fun b27 w28 st29=>zM st29 (k := 0) X X X (za X (za X (za X (za X (za X (za X (za X (za X (za X zap))))))))) zK X X X<|fun w30 st31=> ?_
  obtain ⟨h32, le33, hb34, st36⟩ := st31.freeze (k := 0) rfl
  have hc35 := Cells.of hb34
  refine Y<|W.sr<|U X zi X zbn X X<|E (j := 1) st36.sub hc35 X X X zbG X<|zee X X X<|zai X X ?_
  refine zaB (d := 22) rfl (fun g37 => ?_) (fun g37 => ?_)
  ·
   refine M X X X<|U X zi X zr X X<|M X X X<|E (j := 8) st36.sub hc35 X X X zN X<|M X X X<|U X zi X zr X X<|M X X X<|E (j := 0) st36.sub (hc11.up (le14.trans le33)) X X X zN X<|M X X X<|zee X X X<|zaf (v := (.bool _)) X X X<|zai X X ?_
   refine zaB (d := 29) rfl (fun g38 => ?_) (fun g38 => ?_)
   ·
    refine M X X X<|zy st36.sub (hc5.up ((le10.trans le14).trans le33)) X zaK zR X X<|M X X X<|zy st36.sub hc35 X zaI zK X X<|M X X X ?_
    have q1 := hv v1 (List.mem_of_getElem? hv1)
    have q2 := q1.2 g37
    have q3 := g38
    have l39 := l17.trans le33
    refine zn st36 rfl rfl rfl Tryz.call157 rfl (ih_ (n_ - 1) (by omega) st36.sub (x := x) (x_f0.up l39) (x_f1.up l39) (d := v1) t_u8 zba zba t_u8 (by exact hv) (by omega)) ?_
    intro r40 w41 h42 le43 st44 q45
    obtain rfl := q45
    refine zaf (v := (.bool _)) X X X<|Y ?_
    refine zad rfl (fun c46 => ?_) (fun c46 => ?_)
    ·
     refine W.sr<|zJ X X<|Y<|zB<|zI<|zd<|zd<|zI<|zd<|zc Tryz.results157 ?_
     rw [zhs hv hn]
     refine ⟨h42, _, rfl, st44.done, ?_⟩
     refine zw ?_
     exact (zcC hv1 (by simp_all [voids])).symm
    refine zC<|zP<|O<|zo<|zk X X<|zaP X X t_om X<|zz X X<|Y ?_
    refine ⟨⟨i + 1, h42⟩, ⟨rfl, trivial⟩, ?_, ⟨((le14.trans le33).trans le43), st44.take 0, ?_, ?_⟩, ?_⟩
    ·exact zav
    ·first | omega | (simp; omega)
    ·exact zbY hA hv1 (by simp_all [voids])
    show x.decisions.length - ((i + 1)) < x.decisions.length - i
    omega
   refine Z X X X X X<|Z X X X X X<|Z X X X X X<|zX (v := (.bool _)) X X X<|Y ?_
   refine zad rfl (fun c47 => ?_) (fun c47 => ?_)
   ·
    cases c47
   refine zC<|zP<|O<|zo<|zk X X<|zaP X X t_om X<|zz X X<|Y ?_
   refine ⟨⟨i + 1, h32⟩, ⟨rfl, trivial⟩, ?_, ⟨(le14.trans le33), st36.take 0, ?_, ?_⟩, ?_⟩
   ·exact zav
   ·first | omega | (simp; omega)
   ·exact zbY hA hv1 (by simp_all [voids])
   show x.decisions.length - ((i + 1)) < x.decisions.length - i
   omega
  refine Z X X X X X<|Z X X X X X<|Z X X X X X<|Z X X X X X<|Z X X X X X<|zX (v := (.bool _)) X X X<|zai X X<|Z X X X X X<|Z X X X X X<|Z X X X X X<|zX (v := (.bool _)) X X X<|Y ?_
  refine zad rfl (fun c48 => ?_) (fun c48 => ?_)
  ·
   cases c48
  refine zC<|zP<|O<|zo<|zk X X<|zaP X X t_om X<|zz X X<|Y ?_
  refine ⟨⟨i + 1, h32⟩, ⟨rfl, trivial⟩, ?_, ⟨(le14.trans le33), st36.take 0, ?_, ?_⟩, ?_⟩
  ·exact zav
  ·first | omega | (simp; omega)
  ·exact zbY hA hv1 (by simp_all [voids])
  show x.decisions.length - ((i + 1)) < x.decisions.length - i
  omega
 refine zaC<|zh<|zh<|zah<|O<|W.sr<|zJ X X<|Y<|zB<|zc Tryz.results157 ?_
 rw [zhs hv hn]
 refine ⟨h13, _, rfl, st15.done, ?_⟩
 refine zw ?_
 exact (zcN hA (by omega)).symm
theorem zgk {h : Heap} {w : World} (hs : Sub h w) {x : Lexicon} {x_v0 : Value} (x_f0 : Sl LRule h x_v0 x.rules) {x_v1 : Value} (x_f1 : Sl LDecision h x_v1 x.decisions) (hv : ∀ v ∈ x.decisions, v.number ≤ 999 ∧ (v.kind = 4 → v.of_ < v.number)) (hv1 : ∀ v ∈ x.decisions, 1 ≤ v.number) (hl20 : x.decisions.length ≤ 20) : Calls Tryz.prog 115 #[.agg #[x_v0, x_v1]] w (Rets h w (fun h' _ res_ => ∃ u0, res_ = u0 ∧ Sl LDecision h' u0 (zch x))) := by
 refine zS (n := 37) Tryz.func115 X X X<|have st0:=t_s0 hs;have x_f0_b:=x_f0.le;have x_f1_b:=x_f1.le;W.sr<|zG st0 (cs := [x_v0, x_v1]) X X X<|fun b1 w2 h3 le4 hc5 st6=>zcz X X<|Y<|W.sr<|zcz X X<|Y<|zj<|W.sr<|zz X X<|Y<|zF ?_
 have st10 := st6.snoc
 have f11 := OSl.nil LDecision 74 h3
 refine zat (t_rg 3 33) (G := Nat × Value × List (Nat × Obj) × Heap) (fun ⟨n, v_3, o_3, h7⟩ => [(3, v_3), (4, .int .i64 ((n : Int) + 1))]) (fun ⟨n, v_3, o_3, h7⟩ w' => Le h3 h7 ∧ St h w h7 w' [o_3] ∧ (OSl LDecision 74 h7 v_3 ((List.range n).flatMap (zfH x)) o_3) ∧ (n ≤ 999)) (fun ⟨n, v_3, o_3, h7⟩ => 999 - n) ⟨0, (.slice none 0 0), [], h3⟩ ⟨rfl, rfl, trivial⟩ ⟨Le.refl _, st10, (OSl.to f11 (by rfl)), zaM⟩ ?_
 rintro ⟨n, v_3, o_3, h7⟩ _ w12 ⟨le8, st9, hO_3, hn⟩
 refine zj<|W.sr<|zk X X<|zq X X (r_leq X X)<|Y ?_
 refine zH rfl (fun c13 => ?_) (fun c13 => ?_)
 ·
  refine zC<|O<|zj<|zF<|W.sr<|zz X X<|Y<|zF ?_
  refine zat ([3, 5, 6] ++ t_rg 11 25) (G := Nat × Value × List (Nat × Obj) × Heap) (fun ⟨i, v_3, o_3, h14⟩ => [(3, v_3), (5, .int .i64 (i : Int))]) (fun ⟨i, v_3, o_3, h14⟩ w' => Le h7 h14 ∧ St h w h14 w' [o_3] ∧ (OSl LDecision 74 h14 v_3 ((List.range n).flatMap (zfH x) ++ (x.decisions.take i).filter (zix x n)) o_3) ∧ (i ≤ x.decisions.length)) (fun ⟨i, v_3, o_3, h14⟩ => x.decisions.length - i) ⟨0, v_3, o_3, h7⟩ ⟨rfl, rfl, trivial⟩ ⟨Le.refl _, st9, (OSl.to hO_3 (by simp)), zaM⟩ ?_
  rintro ⟨i, v_3, o_3, h14⟩ _ w17 ⟨le15, st16, hO_3, hi⟩
  refine zj<|W.sr<|zk X X<|U X zQ X zaS X X<|E (j := 1) st16.sub (hc5.up (le8.trans le15)) X X X zbr X<|have l18:=(le4.trans le8).trans le15;zaJ (x_f1.up l18) X zU X<|zaV X X X<|Y ?_
  refine zH rfl (fun c19 => ?_) (fun c19 => ?_)
  ·
   refine zC<|O<|zj<|zF<|W.sr<|U X zQ X zaS X X<|E (j := 1) st16.sub (hc5.up (le8.trans le15)) X X X zbr X<|zk X X ?_
   obtain ⟨d, hd⟩ : ∃ y_, (x.decisions)[i]? = some y_ := t_ge (by omega)
   obtain ⟨b20, o21, _, he23, hc22, hr_d⟩ := Sl.elem (x_f1.up l18) hd
   obtain ⟨rfl, lu24, ls25, ls26, lu27⟩ := hr_d
   simp only [big] at ls25
   simp only [big] at ls26
   refine zV he23 X X (hk := X) (hu := zU) (hz := zK) X<|zy st16.sub hc22 X zaI zK X X<|zae st16 zbD X X<|fun b28 w29 st30=>zM st30 (k := 1) X X X (za X (za X (za X (za X (za X (za X (za X (za X (za X zap))))))))) zK X X X<|fun w31 st32=> ?_
   obtain ⟨h33, le34, hb35, st37⟩ := st32.freeze (k := 1) rfl
   have hc36 := Cells.of hb35
   refine Y<|W.sr<|U X zi X zr X X<|E (j := 0) st37.sub hc36 X X X zN X<|zk X X<|zee X X X<|zai X X ?_
   refine zaB (d := 27) rfl (fun g38 => ?_) (fun g38 => ?_)
   ·
    refine M X X X<|zy st37.sub (hc5.up ((le8.trans le15).trans le34)) X zaK zR X X<|M X X X<|zy st37.sub hc36 X zaI zK X X<|M X X X ?_
    have l39 := l18.trans le34
    refine zn st37 rfl rfl rfl Tryz.call157 rfl (c_postilref04_stands (1000) st37.sub (x := x) (x_f0.up l39) (x_f1.up l39) (d := d) t_u8 zba zba t_u8 (by exact hv) (by have q := (hv1 d (List.mem_of_getElem? hd)); omega)) ?_
    intro r40 w41 h42 le43 st44 q45
    obtain rfl := q45
    refine zaf (v := (.bool _)) X X X<|Y ?_
    refine zad rfl (fun c46 => ?_) (fun c46 => ?_)
    ·
     refine zo<|zaa (v := v_3) X X<|zy st44.sub (hc36.up le43) X zaI zK X X<|zaL (L := LDecision) (xs := [d]) (cs := [.int .i64 (d.number), .int .u8 (d.kind), strV (d.form), .int .i64 (d.at_.chapter), .int .i64 (d.at_.line), .int .i64 (d.at_.word), strV (d.to.stem), .int .u8 (d.to.mark), .int .i64 (d.of_)]) st44 (Enc.cons (L := LDecision) (vs := [.int .i64 (d.number), .int .u8 (d.kind), strV (d.form), .int .i64 (d.at_.chapter), .int .i64 (d.at_.line), .int .i64 (d.at_.word), strV (d.to.stem), .int .u8 (d.to.mark), .int .i64 (d.of_)]) (x := d) (h := h42) (⟨rfl, t_u8, zba, zba, t_u8⟩) Enc.nil) X X X zU Tryz.info74 X X X t_kr<|fun v47 w48 h51 le52 f49 st50=> ?_
     refine zaR (k := 0) (nb := 88) st50 (hO_3.up ((le34.trans le43).trans le52)) rfl f49 rfl rfl rfl zU Tryz.info74 rfl rfl rfl (by decide) rfl (by have q := stand_len n hl20; have q2 := List.length_filter_le (zix x n) (x.decisions.take i); rw [List.length_take] at q2; simp only [List.length_append, List.length_cons, List.length_nil]; omega) (by have q := stand_len n hl20; have q2 := List.length_filter_le (zix x n) (x.decisions.take i); rw [List.length_take] at q2; simp only [List.length_append, List.length_cons, List.length_nil]; omega) ?_
     intro v53 o54 w55 _ e56 f57 st58
     subst e56
     refine zaj (v := v53) X X<|zt<|zP<|O<|zo<|zk X X<|zaP X X t_om X<|zz X X<|Y ?_
     have l59 := ((le15.trans le34).trans le43).trans le52
     refine ⟨⟨i + 1, v53, o54, h51⟩, ⟨rfl, rfl, trivial⟩, ?_, ⟨l59, st58.take 1, ?_, ?_⟩, ?_⟩
     ·exact zav
     ·refine OSl.to f57 ?_
      rw [zbb hd, List.filter_append, List.append_assoc]; simp_all [zix]
     ·first | omega | (simp; omega)
     show x.decisions.length - ((i + 1)) < x.decisions.length - i
     omega
    refine zC<|zP<|O<|zo<|zk X X<|zaP X X t_om X<|zz X X<|Y ?_
    refine ⟨⟨i + 1, v_3, o_3, h42⟩, ⟨rfl, rfl, trivial⟩, ?_, ⟨((le15.trans le34).trans le43), st44.take 1, ?_, ?_⟩, ?_⟩
    ·exact zav
    ·refine OSl.to (hO_3.up (le34.trans le43)) ?_
     rw [zbb hd, List.filter_append]; simp_all [zix]
    ·first | omega | (simp; omega)
    show x.decisions.length - ((i + 1)) < x.decisions.length - i
    omega
   refine Z X X X X X<|Z X X X X X<|Z X X X X X<|zX (v := (.bool _)) X X X<|Y ?_
   refine zad rfl (fun c60 => ?_) (fun c60 => ?_)
   ·
    cases c60
   refine zC<|zP<|O<|zo<|zk X X<|zaP X X t_om X<|zz X X<|Y ?_
   refine ⟨⟨i + 1, v_3, o_3, h33⟩, ⟨rfl, rfl, trivial⟩, ?_, ⟨(le15.trans le34), st37.take 1, ?_, ?_⟩, ?_⟩
   ·exact zav
   ·refine OSl.to (hO_3.up le34) ?_
    rw [zbb hd, List.filter_append]; simp_all [zix]
   ·first | omega | (simp; omega)
   show x.decisions.length - ((i + 1)) < x.decisions.length - i
   omega
  refine zaC<|zh<|zh<|zah<|zP<|O<|zo<|zk X X<|zaP X X t_om X<|zz X X<|Y ?_
  refine ⟨⟨n + 1, v_3, o_3, h14⟩, ⟨rfl, rfl, trivial⟩, ?_, ⟨(le8.trans le15), st16, ?_, ?_⟩, ?_⟩
  ·exact zav
  ·refine OSl.to hO_3 ?_
   rw [List.range_succ, List.flatMap_append]; simp [zfH, List.take_of_length_le (show x.decisions.length ≤ i by omega)]
  ·first | omega | (simp; omega)
  show 999 - ((n + 1)) < 999 - n
  omega
 refine zaC<|zh<|zh<|zah<|O<|W.sr<|zaa (v := v_3) X X<|zaj (v := v_3) X X<|Y<|zB<|zc Tryz.results115 ?_
 obtain ⟨h61, le62, f63, st64⟩ := OSl.freeze (k := 0) st9 hO_3 rfl (by have q := stand_len n hl20; omega)
 refine ⟨h61, _, rfl, st64.done, ?_⟩
 refine ⟨_, rfl, Sl.to f63 ?_⟩
 have q : n = 999 := by omega
 subst q; rfl
end Go.Pk

namespace Go.Pk
open Go Go.RowKit Go.Proofs
theorem zgI {xs : List Int} {v : Value} {g : FuncId} {caps : List Value} (S : Nat → Heap → World → Prop) (p : Nat → Bool)
  (hS : ∀ k h w, S k h w → Sub h w ∧ Sl LInt h v xs)
  (hf : ∀ k x h w vs, S k h w → xs[k]? = some x → LInt.R h vs x → ∀ u, vs = [u] → Calls Tryz.prog g (u :: caps).toArray w (fun e w' => ∃ h', e = .returned (.bool (p k)) ∧ S (k + 1) h' w'))
  (hg : ∀ a w, (callFunc g a).run Tryz.prog w = .ok (.enter g a) w) {h : Heap} {w : World} (h0 : S 0 h w) :
  Calls Tryz.prog 144 #[v, .func (.func g) #[] caps.toArray] w (fun e w' => ∃ h' k, e = .returned (.int .i64 (if k < xs.length then (k : Int) else -1)) ∧ k ≤ xs.length ∧ (∀ j, j < k → p j = false) ∧ (k < xs.length → p k = true) ∧ S (if k < xs.length then k + 1 else k) h' w') := by
 refine zS (n := 19) Tryz.func144 X X X<|have hb:=(hS 0 h w h0).2.le;W.sr<|zz X X<|Y<|zj<|W.sr<|zaa (v := v) X X<|zaJ (hS 0 h w h0).2 X zp X<|zk X X<|Y<|zF ?_
 refine zat ([4, 5] ++ t_rg 8 11) (G := Nat × Heap) (fun ⟨k, _⟩ => [(8, .int .i64 (k : Int))]) (fun ⟨k, h'⟩ w' => S k h' w' ∧ k ≤ xs.length ∧ ∀ j, j < k → p j = false) (fun ⟨k, _⟩ => xs.length - k) ⟨0, h⟩ ⟨rfl, trivial⟩ ⟨h0, by omega, by intros; omega⟩ ?_
 rintro ⟨k, h1⟩ _ w1 ⟨hS1, hk, hp⟩
 obtain ⟨hsub, hsl⟩ := hS k h1 w1 hS1
 refine W.sr<|zaV X X X<|Y<|zj ?_
 refine zad rfl (fun c1 => ?_) (fun c1 => ?_)
 ·replace c1 := t_ot c1
  refine zC<|O<|zj<|zF<|W.sr<|zk X X<|zz X X<|Y<|W.sr<|zhr X X<|zaa (v := v) X X<|zk X X ?_
  have hy : ∃ y, xs[k]? = some y := ⟨_, List.getElem?_eq_getElem (by omega)⟩
  obtain ⟨y, hy⟩ := hy
  obtain ⟨b, o, vs, he, hc, hr⟩ := Sl.elem hsl hy
  refine zV he X X (hk := X) (hu := zp) (hz := zr) X ?_
  obtain ⟨u, rfl⟩ : ∃ u, vs = [u] := by
   have q := LInt.len hr
   match vs, q with
   | [u], _ => exact ⟨u, rfl⟩
  refine E (j := 0) hsub hc X X X zN X ?_
  refine zaT rfl rfl (zcb (fs := []) (cs := caps) rfl rfl hg rfl) ((hf k y h1 w1 _ hS1 hy hr _ rfl).mono ?_)
  rintro e w2 ⟨h2, rfl, hS2⟩
  refine ⟨_, rfl, ?_⟩
  refine Y ?_
  refine zad rfl (fun c2 => ?_) (fun c2 => ?_)
  ·refine zj ?_
   refine zo<|zk X X<|zz X X<|Y<|zB ?_
   repeat (first | refine zI ?_ | refine zd ?_)
   refine zc Tryz.results144 ?_
   have hlt : k < xs.length := by omega
   exact ⟨h2, k, by rw [if_pos hlt]; rfl, hk, hp, fun _ => c2, by rw [if_pos hlt]; exact hS2⟩
  ·refine zC ?_
   refine zP<|O<|zo ?_
   refine zq rfl rfl (zij rfl rfl (by omega)) ?_
   refine zk X X<|Y ?_
   refine ⟨⟨k + 1, h2⟩, ⟨rfl, trivial⟩, ?_, ⟨hS2, by omega, ?_⟩, ?_⟩
   ·exact zav
   ·intro j hj
    rcases Nat.lt_or_ge j k with h3 | h3
    ·exact hp j h3
    ·obtain rfl : j = k := by omega
     exact c2
   ·show xs.length - (k + 1) < xs.length - k
    omega
 ·replace c1 := t_of c1
  refine zaC<|zh<|zh<|zah<|O<|W.sr<|zz X X<|Y<|zB<|zc Tryz.results144 ?_
  have hlt : ¬ k < xs.length := by omega
  exact ⟨h1, k, by rw [if_neg hlt]; rfl, hk, hp, fun q => absurd q hlt, by rw [if_neg hlt]; exact hS1⟩

theorem zgc {xs : List Int} {v : Value} {g : FuncId} {caps : List Value} (S : Nat → Heap → World → Prop) (p : Nat → Bool)
  (hS : ∀ k h w, S k h w → Sub h w ∧ Sl LInt h v xs)
  (hf : ∀ k x h w vs, S k h w → xs[k]? = some x → LInt.R h vs x → ∀ u, vs = [u] → Calls Tryz.prog g (u :: caps).toArray w (fun e w' => ∃ h', e = .returned (.bool (p k)) ∧ S (k + 1) h' w'))
  (hg : ∀ a w, (callFunc g a).run Tryz.prog w = .ok (.enter g a) w) {h : Heap} {w : World} (h0 : S 0 h w) :
  Calls Tryz.prog 101 #[v, .func (.func g) #[] caps.toArray] w (fun e w' => ∃ h' k, e = .returned (.bool (decide (k < xs.length))) ∧ k ≤ xs.length ∧ (∀ j, j < k → p j = false) ∧ (k < xs.length → p k = true) ∧ S (if k < xs.length then k + 1 else k) h' w') := by
 refine zS (n := 9) Tryz.func101 X X X<|W.sr<|zJ X X<|Y<|W.sr<|zaa (v := v) X X<|zhr X X ?_
 refine zaT rfl rfl (zbc rfl Tryz.call144 rfl) ((zgI S p hS hf hg h0).mono ?_)
 rintro e w2 ⟨h2, k, rfl, q1, q2, q3, q4⟩
 refine ⟨_, rfl, ?_⟩
 refine zie X X X<|zJ X X<|Y<|zB<|zc Tryz.results101 ?_
 refine ⟨h2, k, congrArg Ending.returned (zw ?_), q1, q2, q3, q4⟩
 by_cases hlt : k < xs.length
 ·simp [hlt]
 ·simp [hlt]
theorem zdq {xs : List Int} {v : Value} {g : FuncId} {caps : List Value} {h : Heap} {w : World} (hs : Sub h w) (hx : Sl LInt h v xs) (q : Int → Bool)
  (hg : ∀ a w, (callFunc g a).run Tryz.prog w = .ok (.enter g a) w)
  (hf : ∀ x h' w' vs, Le h h' → Sub h' w' → x ∈ xs → LInt.R h' vs x → ∀ u, vs = [u] → Calls Tryz.prog g (u :: caps).toArray w' (Rets h' w' fun _ _ r => r = .bool (q x))) :
  Calls Tryz.prog 101 #[v, .func (.func g) #[] caps.toArray] w (Rets h w fun _ _ r => r = .bool (xs.any q)) := by
 refine (zgc (fun k h' w' => St h w h' w' [] ∧ k ≤ xs.length) (fun k => ((xs[k]?).map q).getD false) (fun k h' w' hk => ⟨hk.1.sub, hx.up hk.1.le⟩) ?_ hg ⟨St.start hs, Nat.zero_le _⟩).mono ?_
 ·rintro k x h' w' vs ⟨st, _⟩ hk hr u hu
  refine (hf x h' w' vs st.le st.sub (List.mem_of_getElem? hk) hr u hu).mono ?_
  rintro e w'' ⟨h'', r, rfl, s, rfl⟩
  obtain ⟨hlt, _⟩ := List.getElem?_eq_some_iff.1 hk
  exact ⟨h'', by simp [hk], st.call0 s, hlt⟩
 ·rintro e w' ⟨h', k, rfl, q1, q2, q3, q4⟩
  refine ⟨h', _, rfl, q4.1, zw ?_⟩
  by_cases hlt : k < xs.length
  ·have h3 := q3 hlt
   rw [List.getElem?_eq_getElem hlt] at h3
   simp only [Option.map_some, Option.getD_some] at h3
   have : xs.any q = true := List.any_eq_true.2 ⟨_, List.getElem_mem hlt, h3⟩
   simp [hlt, this]
  ·have : xs.any q = false := by
    rw [List.any_eq_false]
    intro x hx'
    obtain ⟨j, hj⟩ := List.mem_iff_getElem?.1 hx'
    obtain ⟨h5, _⟩ := List.getElem?_eq_some_iff.1 hj
    have := q2 j (by omega)
    simpa [hj] using this
   simp [hlt, this]

theorem zgj {xs : List Int} {v : Value} {g : FuncId} {caps : List Value} (S : Nat → Heap → World → Prop) (p : Nat → Bool)
  (hS : ∀ k h w, S k h w → Sub h w ∧ Sl LU8 h v xs)
  (hf : ∀ k x h w vs, S k h w → xs[k]? = some x → LU8.R h vs x → ∀ u, vs = [u] → Calls Tryz.prog g (u :: caps).toArray w (fun e w' => ∃ h', e = .returned (.bool (p k)) ∧ S (k + 1) h' w'))
  (hg : ∀ a w, (callFunc g a).run Tryz.prog w = .ok (.enter g a) w) {h : Heap} {w : World} (h0 : S 0 h w) :
  Calls Tryz.prog 187 #[v, .func (.func g) #[] caps.toArray] w (fun e w' => ∃ h' k, e = .returned (.int .i64 (if k < xs.length then (k : Int) else -1)) ∧ k ≤ xs.length ∧ (∀ j, j < k → p j = false) ∧ (k < xs.length → p k = true) ∧ S (if k < xs.length then k + 1 else k) h' w') := by
 refine zS (n := 19) Tryz.func187 X X X<|have hb:=(hS 0 h w h0).2.le;W.sr<|zz X X<|Y<|zj<|W.sr<|zaa (v := v) X X<|zaJ (hS 0 h w h0).2 X Tryz.underlying215 X<|zk X X<|Y<|zF ?_
 refine zat ([4, 5] ++ t_rg 8 11) (G := Nat × Heap) (fun ⟨k, _⟩ => [(8, .int .i64 (k : Int))]) (fun ⟨k, h'⟩ w' => S k h' w' ∧ k ≤ xs.length ∧ ∀ j, j < k → p j = false) (fun ⟨k, _⟩ => xs.length - k) ⟨0, h⟩ ⟨rfl, trivial⟩ ⟨h0, by omega, by intros; omega⟩ ?_
 rintro ⟨k, h1⟩ _ w1 ⟨hS1, hk, hp⟩
 obtain ⟨hsub, hsl⟩ := hS k h1 w1 hS1
 refine W.sr<|zaV X X X<|Y<|zj ?_
 refine zad rfl (fun c1 => ?_) (fun c1 => ?_)
 ·replace c1 := t_ot c1
  refine zC<|O<|zj<|zF<|W.sr<|zk X X<|zz X X<|Y<|W.sr<|zhr X X<|zaa (v := v) X X<|zk X X ?_
  have hy : ∃ y, xs[k]? = some y := ⟨_, List.getElem?_eq_getElem (by omega)⟩
  obtain ⟨y, hy⟩ := hy
  obtain ⟨b, o, vs, he, hc, hr⟩ := Sl.elem hsl hy
  refine zV he X X (hk := X) (hu := Tryz.underlying215) (hz := zbn) X ?_
  obtain ⟨u, rfl⟩ : ∃ u, vs = [u] := by
   have q := LU8.len hr
   match vs, q with
   | [u], _ => exact ⟨u, rfl⟩
  refine E (j := 0) hsub hc X X X zbG X ?_
  refine zaT rfl rfl (zcb (fs := []) (cs := caps) rfl rfl hg rfl) ((hf k y h1 w1 _ hS1 hy hr _ rfl).mono ?_)
  rintro e w2 ⟨h2, rfl, hS2⟩
  refine ⟨_, rfl, ?_⟩
  refine Y ?_
  refine zad rfl (fun c2 => ?_) (fun c2 => ?_)
  ·refine zj ?_
   refine zo<|zk X X<|zz X X<|Y<|zB ?_
   repeat (first | refine zI ?_ | refine zd ?_)
   refine zc Tryz.results187 ?_
   have hlt : k < xs.length := by omega
   exact ⟨h2, k, by rw [if_pos hlt]; rfl, hk, hp, fun _ => c2, by rw [if_pos hlt]; exact hS2⟩
  ·refine zC ?_
   refine zP<|O<|zo ?_
   refine zq rfl rfl (zij rfl rfl (by omega)) ?_
   refine zk X X<|Y ?_
   refine ⟨⟨k + 1, h2⟩, ⟨rfl, trivial⟩, ?_, ⟨hS2, by omega, ?_⟩, ?_⟩
   ·exact zav
   ·intro j hj
    rcases Nat.lt_or_ge j k with h3 | h3
    ·exact hp j h3
    ·obtain rfl : j = k := by omega
     exact c2
   ·show xs.length - (k + 1) < xs.length - k
    omega
 ·replace c1 := t_of c1
  refine zaC<|zh<|zh<|zah<|O<|W.sr<|zz X X<|Y<|zB<|zc Tryz.results187 ?_
  have hlt : ¬ k < xs.length := by omega
  exact ⟨h1, k, by rw [if_neg hlt]; rfl, hk, hp, fun q => absurd q hlt, by rw [if_neg hlt]; exact hS1⟩

theorem zfG {xs : List Int} {v : Value} {g : FuncId} {caps : List Value} (S : Nat → Heap → World → Prop) (p : Nat → Bool)
  (hS : ∀ k h w, S k h w → Sub h w ∧ Sl LU8 h v xs)
  (hf : ∀ k x h w vs, S k h w → xs[k]? = some x → LU8.R h vs x → ∀ u, vs = [u] → Calls Tryz.prog g (u :: caps).toArray w (fun e w' => ∃ h', e = .returned (.bool (p k)) ∧ S (k + 1) h' w'))
  (hg : ∀ a w, (callFunc g a).run Tryz.prog w = .ok (.enter g a) w) {h : Heap} {w : World} (h0 : S 0 h w) :
  Calls Tryz.prog 139 #[v, .func (.func g) #[] caps.toArray] w (fun e w' => ∃ h' k, e = .returned (.bool (decide (k < xs.length))) ∧ k ≤ xs.length ∧ (∀ j, j < k → p j = false) ∧ (k < xs.length → p k = true) ∧ S (if k < xs.length then k + 1 else k) h' w') := by
 refine zS (n := 9) Tryz.func139 X X X<|W.sr<|zJ X X<|Y<|W.sr<|zaa (v := v) X X<|zhr X X ?_
 refine zaT rfl rfl (zbc rfl Tryz.call187 rfl) ((zgj S p hS hf hg h0).mono ?_)
 rintro e w2 ⟨h2, k, rfl, q1, q2, q3, q4⟩
 refine ⟨_, rfl, ?_⟩
 refine zie X X X<|zJ X X<|Y<|zB<|zc Tryz.results139 ?_
 refine ⟨h2, k, congrArg Ending.returned (zw ?_), q1, q2, q3, q4⟩
 by_cases hlt : k < xs.length
 ·simp [hlt]
 ·simp [hlt]
theorem zek {xs : List Int} {v : Value} {g : FuncId} {caps : List Value} {h : Heap} {w : World} (hs : Sub h w) (hx : Sl LU8 h v xs) (q : Int → Bool)
  (hg : ∀ a w, (callFunc g a).run Tryz.prog w = .ok (.enter g a) w)
  (hf : ∀ x h' w' vs, Le h h' → Sub h' w' → x ∈ xs → LU8.R h' vs x → ∀ u, vs = [u] → Calls Tryz.prog g (u :: caps).toArray w' (Rets h' w' fun _ _ r => r = .bool (q x))) :
  Calls Tryz.prog 139 #[v, .func (.func g) #[] caps.toArray] w (Rets h w fun _ _ r => r = .bool (xs.any q)) := by
 refine (zfG (fun k h' w' => St h w h' w' [] ∧ k ≤ xs.length) (fun k => ((xs[k]?).map q).getD false) (fun k h' w' hk => ⟨hk.1.sub, hx.up hk.1.le⟩) ?_ hg ⟨St.start hs, Nat.zero_le _⟩).mono ?_
 ·rintro k x h' w' vs ⟨st, _⟩ hk hr u hu
  refine (hf x h' w' vs st.le st.sub (List.mem_of_getElem? hk) hr u hu).mono ?_
  rintro e w'' ⟨h'', r, rfl, s, rfl⟩
  obtain ⟨hlt, _⟩ := List.getElem?_eq_some_iff.1 hk
  exact ⟨h'', by simp [hk], st.call0 s, hlt⟩
 ·rintro e w' ⟨h', k, rfl, q1, q2, q3, q4⟩
  refine ⟨h', _, rfl, q4.1, zw ?_⟩
  by_cases hlt : k < xs.length
  ·have h3 := q3 hlt
   rw [List.getElem?_eq_getElem hlt] at h3
   simp only [Option.map_some, Option.getD_some] at h3
   have : xs.any q = true := List.any_eq_true.2 ⟨_, List.getElem_mem hlt, h3⟩
   simp [hlt, this]
  ·have : xs.any q = false := by
    rw [List.any_eq_false]
    intro x hx'
    obtain ⟨j, hj⟩ := List.mem_iff_getElem?.1 hx'
    obtain ⟨h5, _⟩ := List.getElem?_eq_some_iff.1 hj
    have := q2 j (by omega)
    simpa [hj] using this
   simp [hlt, this]

theorem zdG {xs : List Str} {v : Value} {g : FuncId} {caps : List Value} (S : Nat → Heap → World → Prop) (p : Nat → Bool)
  (hS : ∀ k h w, S k h w → Sub h w ∧ Sl LStr h v xs)
  (hf : ∀ k x h w vs, S k h w → xs[k]? = some x → LStr.R h vs x → ∀ u, vs = [u] → Calls Tryz.prog g (u :: caps).toArray w (fun e w' => ∃ h', e = .returned (.bool (p k)) ∧ S (k + 1) h' w'))
  (hg : ∀ a w, (callFunc g a).run Tryz.prog w = .ok (.enter g a) w) {h : Heap} {w : World} (h0 : S 0 h w) :
  Calls Tryz.prog 123 #[v, .func (.func g) #[] caps.toArray] w (fun e w' => ∃ h' k, e = .returned (.int .i64 (if k < xs.length then (k : Int) else -1)) ∧ k ≤ xs.length ∧ (∀ j, j < k → p j = false) ∧ (k < xs.length → p k = true) ∧ S (if k < xs.length then k + 1 else k) h' w') := by
 refine zS (n := 19) Tryz.func123 X X X<|have hb:=(hS 0 h w h0).2.le;W.sr<|zz X X<|Y<|zj<|W.sr<|zaa (v := v) X X<|zaJ (hS 0 h w h0).2 X zA X<|zk X X<|Y<|zF ?_
 refine zat ([4, 5] ++ t_rg 8 11) (G := Nat × Heap) (fun ⟨k, _⟩ => [(8, .int .i64 (k : Int))]) (fun ⟨k, h'⟩ w' => S k h' w' ∧ k ≤ xs.length ∧ ∀ j, j < k → p j = false) (fun ⟨k, _⟩ => xs.length - k) ⟨0, h⟩ ⟨rfl, trivial⟩ ⟨h0, by omega, by intros; omega⟩ ?_
 rintro ⟨k, h1⟩ _ w1 ⟨hS1, hk, hp⟩
 obtain ⟨hsub, hsl⟩ := hS k h1 w1 hS1
 refine W.sr<|zaV X X X<|Y<|zj ?_
 refine zad rfl (fun c1 => ?_) (fun c1 => ?_)
 ·replace c1 := t_ot c1
  refine zC<|O<|zj<|zF<|W.sr<|zk X X<|zz X X<|Y<|W.sr<|zhr X X<|zaa (v := v) X X<|zk X X ?_
  have hy : ∃ y, xs[k]? = some y := ⟨_, List.getElem?_eq_getElem (by omega)⟩
  obtain ⟨y, hy⟩ := hy
  obtain ⟨b, o, vs, he, hc, hr⟩ := Sl.elem hsl hy
  refine zV he X X (hk := X) (hu := zA) (hz := zW) X ?_
  obtain ⟨u, rfl⟩ : ∃ u, vs = [u] := by
   have q := LStr.len hr
   match vs, q with
   | [u], _ => exact ⟨u, rfl⟩
  refine E (j := 0) hsub hc X X X zaw X ?_
  refine zaT rfl rfl (zcb (fs := []) (cs := caps) rfl rfl hg rfl) ((hf k y h1 w1 _ hS1 hy hr _ rfl).mono ?_)
  rintro e w2 ⟨h2, rfl, hS2⟩
  refine ⟨_, rfl, ?_⟩
  refine Y ?_
  refine zad rfl (fun c2 => ?_) (fun c2 => ?_)
  ·refine zj ?_
   refine zo<|zk X X<|zz X X<|Y<|zB ?_
   repeat (first | refine zI ?_ | refine zd ?_)
   refine zc Tryz.results123 ?_
   have hlt : k < xs.length := by omega
   exact ⟨h2, k, by rw [if_pos hlt]; rfl, hk, hp, fun _ => c2, by rw [if_pos hlt]; exact hS2⟩
  ·refine zC ?_
   refine zP<|O<|zo ?_
   refine zq rfl rfl (zij rfl rfl (by omega)) ?_
   refine zk X X<|Y ?_
   refine ⟨⟨k + 1, h2⟩, ⟨rfl, trivial⟩, ?_, ⟨hS2, by omega, ?_⟩, ?_⟩
   ·exact zav
   ·intro j hj
    rcases Nat.lt_or_ge j k with h3 | h3
    ·exact hp j h3
    ·obtain rfl : j = k := by omega
     exact c2
   ·show xs.length - (k + 1) < xs.length - k
    omega
 ·replace c1 := t_of c1
  refine zaC<|zh<|zh<|zah<|O<|W.sr<|zz X X<|Y<|zB<|zc Tryz.results123 ?_
  have hlt : ¬ k < xs.length := by omega
  exact ⟨h1, k, by rw [if_neg hlt]; rfl, hk, hp, fun q => absurd q hlt, by rw [if_neg hlt]; exact hS1⟩

theorem zeX {xs : List Str} {v : Value} {g : FuncId} {caps : List Value} (S : Nat → Heap → World → Prop) (p : Nat → Bool)
  (hS : ∀ k h w, S k h w → Sub h w ∧ Sl LStr h v xs)
  (hf : ∀ k x h w vs, S k h w → xs[k]? = some x → LStr.R h vs x → ∀ u, vs = [u] → Calls Tryz.prog g (u :: caps).toArray w (fun e w' => ∃ h', e = .returned (.bool (p k)) ∧ S (k + 1) h' w'))
  (hg : ∀ a w, (callFunc g a).run Tryz.prog w = .ok (.enter g a) w) {h : Heap} {w : World} (h0 : S 0 h w) :
  Calls Tryz.prog 176 #[v, .func (.func g) #[] caps.toArray] w (fun e w' => ∃ h' k, e = .returned (.bool (decide (k < xs.length))) ∧ k ≤ xs.length ∧ (∀ j, j < k → p j = false) ∧ (k < xs.length → p k = true) ∧ S (if k < xs.length then k + 1 else k) h' w') := by
 refine zS (n := 9) Tryz.func176 X X X<|W.sr<|zJ X X<|Y<|W.sr<|zaa (v := v) X X<|zhr X X ?_
 refine zaT rfl rfl (zbc rfl Tryz.call123 rfl) ((zdG S p hS hf hg h0).mono ?_)
 rintro e w2 ⟨h2, k, rfl, q1, q2, q3, q4⟩
 refine ⟨_, rfl, ?_⟩
 refine zie X X X<|zJ X X<|Y<|zB<|zc Tryz.results176 ?_
 refine ⟨h2, k, congrArg Ending.returned (zw ?_), q1, q2, q3, q4⟩
 by_cases hlt : k < xs.length
 ·simp [hlt]
 ·simp [hlt]
theorem zfz {xs : List Str} {v : Value} {g : FuncId} {caps : List Value} {h : Heap} {w : World} (hs : Sub h w) (hx : Sl LStr h v xs) (q : Str → Bool)
  (hg : ∀ a w, (callFunc g a).run Tryz.prog w = .ok (.enter g a) w)
  (hf : ∀ x h' w' vs, Le h h' → Sub h' w' → x ∈ xs → LStr.R h' vs x → ∀ u, vs = [u] → Calls Tryz.prog g (u :: caps).toArray w' (Rets h' w' fun _ _ r => r = .bool (q x))) :
  Calls Tryz.prog 176 #[v, .func (.func g) #[] caps.toArray] w (Rets h w fun _ _ r => r = .bool (xs.any q)) := by
 refine (zeX (fun k h' w' => St h w h' w' [] ∧ k ≤ xs.length) (fun k => ((xs[k]?).map q).getD false) (fun k h' w' hk => ⟨hk.1.sub, hx.up hk.1.le⟩) ?_ hg ⟨St.start hs, Nat.zero_le _⟩).mono ?_
 ·rintro k x h' w' vs ⟨st, _⟩ hk hr u hu
  refine (hf x h' w' vs st.le st.sub (List.mem_of_getElem? hk) hr u hu).mono ?_
  rintro e w'' ⟨h'', r, rfl, s, rfl⟩
  obtain ⟨hlt, _⟩ := List.getElem?_eq_some_iff.1 hk
  exact ⟨h'', by simp [hk], st.call0 s, hlt⟩
 ·rintro e w' ⟨h', k, rfl, q1, q2, q3, q4⟩
  refine ⟨h', _, rfl, q4.1, zw ?_⟩
  by_cases hlt : k < xs.length
  ·have h3 := q3 hlt
   rw [List.getElem?_eq_getElem hlt] at h3
   simp only [Option.map_some, Option.getD_some] at h3
   have : xs.any q = true := List.any_eq_true.2 ⟨_, List.getElem_mem hlt, h3⟩
   simp [hlt, this]
  ·have : xs.any q = false := by
    rw [List.any_eq_false]
    intro x hx'
    obtain ⟨j, hj⟩ := List.mem_iff_getElem?.1 hx'
    obtain ⟨h5, _⟩ := List.getElem?_eq_some_iff.1 hj
    have := q2 j (by omega)
    simpa [hj] using this
   simp [hlt, this]

theorem zeU {xs : List Rule} {v : Value} {g : FuncId} {caps : List Value} (S : Nat → Heap → World → Prop) (p : Nat → Bool)
  (hS : ∀ k h w, S k h w → Sub h w ∧ Sl LRule h v xs)
  (hf : ∀ k x h w vs, S k h w → xs[k]? = some x → LRule.R h vs x → ∀ u, u = .agg vs.toArray → Calls Tryz.prog g (u :: caps).toArray w (fun e w' => ∃ h', e = .returned (.bool (p k)) ∧ S (k + 1) h' w'))
  (hg : ∀ a w, (callFunc g a).run Tryz.prog w = .ok (.enter g a) w) {h : Heap} {w : World} (h0 : S 0 h w) :
  Calls Tryz.prog 223 #[v, .func (.func g) #[] caps.toArray] w (fun e w' => ∃ h' k, e = .returned (.int .i64 (if k < xs.length then (k : Int) else -1)) ∧ k ≤ xs.length ∧ (∀ j, j < k → p j = false) ∧ (k < xs.length → p k = true) ∧ S (if k < xs.length then k + 1 else k) h' w') := by
 refine zS (n := 19) Tryz.func223 X X X<|have hb:=(hS 0 h w h0).2.le;W.sr<|zz X X<|Y<|zj<|W.sr<|zaa (v := v) X X<|zaJ (hS 0 h w h0).2 X zaX X<|zk X X<|Y<|zF ?_
 refine zat ([4, 5] ++ t_rg 8 11) (G := Nat × Heap) (fun ⟨k, _⟩ => [(8, .int .i64 (k : Int))]) (fun ⟨k, h'⟩ w' => S k h' w' ∧ k ≤ xs.length ∧ ∀ j, j < k → p j = false) (fun ⟨k, _⟩ => xs.length - k) ⟨0, h⟩ ⟨rfl, trivial⟩ ⟨h0, by omega, by intros; omega⟩ ?_
 rintro ⟨k, h1⟩ _ w1 ⟨hS1, hk, hp⟩
 obtain ⟨hsub, hsl⟩ := hS k h1 w1 hS1
 refine W.sr<|zaV X X X<|Y<|zj ?_
 refine zad rfl (fun c1 => ?_) (fun c1 => ?_)
 ·replace c1 := t_ot c1
  refine zC<|O<|zj<|zF<|W.sr<|zk X X<|zz X X<|Y<|W.sr<|zhr X X<|zaa (v := v) X X<|zk X X ?_
  have hy : ∃ y, xs[k]? = some y := ⟨_, List.getElem?_eq_getElem (by omega)⟩
  obtain ⟨y, hy⟩ := hy
  obtain ⟨b, o, vs, he, hc, hr⟩ := Sl.elem hsl hy
  refine zV he X X (hk := X) (hu := zaX) (hz := zcr) X<|zy hsub hc X zgK zcr (LRule.len hr) X ?_
  refine zaT rfl rfl (zcb (fs := []) (cs := caps) rfl rfl hg rfl) ((hf k y h1 w1 _ hS1 hy hr _ rfl).mono ?_)
  rintro e w2 ⟨h2, rfl, hS2⟩
  refine ⟨_, rfl, ?_⟩
  refine Y ?_
  refine zad rfl (fun c2 => ?_) (fun c2 => ?_)
  ·refine zj ?_
   refine zo<|zk X X<|zz X X<|Y<|zB ?_
   repeat (first | refine zI ?_ | refine zd ?_)
   refine zc Tryz.results223 ?_
   have hlt : k < xs.length := by omega
   exact ⟨h2, k, by rw [if_pos hlt]; rfl, hk, hp, fun _ => c2, by rw [if_pos hlt]; exact hS2⟩
  ·refine zC ?_
   refine zP<|O<|zo ?_
   refine zq rfl rfl (zij rfl rfl (by omega)) ?_
   refine zk X X<|Y ?_
   refine ⟨⟨k + 1, h2⟩, ⟨rfl, trivial⟩, ?_, ⟨hS2, by omega, ?_⟩, ?_⟩
   ·exact zav
   ·intro j hj
    rcases Nat.lt_or_ge j k with h3 | h3
    ·exact hp j h3
    ·obtain rfl : j = k := by omega
     exact c2
   ·show xs.length - (k + 1) < xs.length - k
    omega
 ·replace c1 := t_of c1
  refine zaC<|zh<|zh<|zah<|O<|W.sr<|zz X X<|Y<|zB<|zc Tryz.results223 ?_
  have hlt : ¬ k < xs.length := by omega
  exact ⟨h1, k, by rw [if_neg hlt]; rfl, hk, hp, fun q => absurd q hlt, by rw [if_neg hlt]; exact hS1⟩

theorem zeA {xs : List Rule} {v : Value} {g : FuncId} {caps : List Value} (S : Nat → Heap → World → Prop) (p : Nat → Bool)
  (hS : ∀ k h w, S k h w → Sub h w ∧ Sl LRule h v xs)
  (hf : ∀ k x h w vs, S k h w → xs[k]? = some x → LRule.R h vs x → ∀ u, u = .agg vs.toArray → Calls Tryz.prog g (u :: caps).toArray w (fun e w' => ∃ h', e = .returned (.bool (p k)) ∧ S (k + 1) h' w'))
  (hg : ∀ a w, (callFunc g a).run Tryz.prog w = .ok (.enter g a) w) {h : Heap} {w : World} (h0 : S 0 h w) :
  Calls Tryz.prog 179 #[v, .func (.func g) #[] caps.toArray] w (fun e w' => ∃ h' k, e = .returned (.bool (decide (k < xs.length))) ∧ k ≤ xs.length ∧ (∀ j, j < k → p j = false) ∧ (k < xs.length → p k = true) ∧ S (if k < xs.length then k + 1 else k) h' w') := by
 refine zS (n := 9) Tryz.func179 X X X<|W.sr<|zJ X X<|Y<|W.sr<|zaa (v := v) X X<|zhr X X ?_
 refine zaT rfl rfl (zbc rfl Tryz.call223 rfl) ((zeU S p hS hf hg h0).mono ?_)
 rintro e w2 ⟨h2, k, rfl, q1, q2, q3, q4⟩
 refine ⟨_, rfl, ?_⟩
 refine zie X X X<|zJ X X<|Y<|zB<|zc Tryz.results179 ?_
 refine ⟨h2, k, congrArg Ending.returned (zw ?_), q1, q2, q3, q4⟩
 by_cases hlt : k < xs.length
 ·simp [hlt]
 ·simp [hlt]
theorem zdX {xs : List Decision} {v : Value} {g : FuncId} {caps : List Value} (S : Nat → Heap → World → Prop) (p : Nat → Bool)
  (hS : ∀ k h w, S k h w → Sub h w ∧ Sl LDecision h v xs)
  (hf : ∀ k x h w vs, S k h w → xs[k]? = some x → LDecision.R h vs x → ∀ u, u = .agg vs.toArray → Calls Tryz.prog g (u :: caps).toArray w (fun e w' => ∃ h', e = .returned (.bool (p k)) ∧ S (k + 1) h' w'))
  (hg : ∀ a w, (callFunc g a).run Tryz.prog w = .ok (.enter g a) w) {h : Heap} {w : World} (h0 : S 0 h w) :
  Calls Tryz.prog 225 #[v, .func (.func g) #[] caps.toArray] w (fun e w' => ∃ h' k, e = .returned (.int .i64 (if k < xs.length then (k : Int) else -1)) ∧ k ≤ xs.length ∧ (∀ j, j < k → p j = false) ∧ (k < xs.length → p k = true) ∧ S (if k < xs.length then k + 1 else k) h' w') := by
 refine zS (n := 19) Tryz.func225 X X X<|have hb:=(hS 0 h w h0).2.le;W.sr<|zz X X<|Y<|zj<|W.sr<|zaa (v := v) X X<|zaJ (hS 0 h w h0).2 X zU X<|zk X X<|Y<|zF ?_
 refine zat ([4, 5] ++ t_rg 8 11) (G := Nat × Heap) (fun ⟨k, _⟩ => [(8, .int .i64 (k : Int))]) (fun ⟨k, h'⟩ w' => S k h' w' ∧ k ≤ xs.length ∧ ∀ j, j < k → p j = false) (fun ⟨k, _⟩ => xs.length - k) ⟨0, h⟩ ⟨rfl, trivial⟩ ⟨h0, by omega, by intros; omega⟩ ?_
 rintro ⟨k, h1⟩ _ w1 ⟨hS1, hk, hp⟩
 obtain ⟨hsub, hsl⟩ := hS k h1 w1 hS1
 refine W.sr<|zaV X X X<|Y<|zj ?_
 refine zad rfl (fun c1 => ?_) (fun c1 => ?_)
 ·replace c1 := t_ot c1
  refine zC<|O<|zj<|zF<|W.sr<|zk X X<|zz X X<|Y<|W.sr<|zhr X X<|zaa (v := v) X X<|zk X X ?_
  have hy : ∃ y, xs[k]? = some y := ⟨_, List.getElem?_eq_getElem (by omega)⟩
  obtain ⟨y, hy⟩ := hy
  obtain ⟨b, o, vs, he, hc, hr⟩ := Sl.elem hsl hy
  refine zV he X X (hk := X) (hu := zU) (hz := zK) X<|zy hsub hc X zaI zK (LDecision.len hr) X ?_
  refine zaT rfl rfl (zcb (fs := []) (cs := caps) rfl rfl hg rfl) ((hf k y h1 w1 _ hS1 hy hr _ rfl).mono ?_)
  rintro e w2 ⟨h2, rfl, hS2⟩
  refine ⟨_, rfl, ?_⟩
  refine Y ?_
  refine zad rfl (fun c2 => ?_) (fun c2 => ?_)
  ·refine zj ?_
   refine zo<|zk X X<|zz X X<|Y<|zB ?_
   repeat (first | refine zI ?_ | refine zd ?_)
   refine zc Tryz.results225 ?_
   have hlt : k < xs.length := by omega
   exact ⟨h2, k, by rw [if_pos hlt]; rfl, hk, hp, fun _ => c2, by rw [if_pos hlt]; exact hS2⟩
  ·refine zC ?_
   refine zP<|O<|zo ?_
   refine zq rfl rfl (zij rfl rfl (by omega)) ?_
   refine zk X X<|Y ?_
   refine ⟨⟨k + 1, h2⟩, ⟨rfl, trivial⟩, ?_, ⟨hS2, by omega, ?_⟩, ?_⟩
   ·exact zav
   ·intro j hj
    rcases Nat.lt_or_ge j k with h3 | h3
    ·exact hp j h3
    ·obtain rfl : j = k := by omega
     exact c2
   ·show xs.length - (k + 1) < xs.length - k
    omega
 ·replace c1 := t_of c1
  refine zaC<|zh<|zh<|zah<|O<|W.sr<|zz X X<|Y<|zB<|zc Tryz.results225 ?_
  have hlt : ¬ k < xs.length := by omega
  exact ⟨h1, k, by rw [if_neg hlt]; rfl, hk, hp, fun q => absurd q hlt, by rw [if_neg hlt]; exact hS1⟩

theorem zdN {xs : List Decision} {v : Value} {g : FuncId} {caps : List Value} (S : Nat → Heap → World → Prop) (p : Nat → Bool)
  (hS : ∀ k h w, S k h w → Sub h w ∧ Sl LDecision h v xs)
  (hf : ∀ k x h w vs, S k h w → xs[k]? = some x → LDecision.R h vs x → ∀ u, u = .agg vs.toArray → Calls Tryz.prog g (u :: caps).toArray w (fun e w' => ∃ h', e = .returned (.bool (p k)) ∧ S (k + 1) h' w'))
  (hg : ∀ a w, (callFunc g a).run Tryz.prog w = .ok (.enter g a) w) {h : Heap} {w : World} (h0 : S 0 h w) :
  Calls Tryz.prog 184 #[v, .func (.func g) #[] caps.toArray] w (fun e w' => ∃ h' k, e = .returned (.bool (decide (k < xs.length))) ∧ k ≤ xs.length ∧ (∀ j, j < k → p j = false) ∧ (k < xs.length → p k = true) ∧ S (if k < xs.length then k + 1 else k) h' w') := by
 refine zS (n := 9) Tryz.func184 X X X<|W.sr<|zJ X X<|Y<|W.sr<|zaa (v := v) X X<|zhr X X ?_
 refine zaT rfl rfl (zbc rfl Tryz.call225 rfl) ((zdX S p hS hf hg h0).mono ?_)
 rintro e w2 ⟨h2, k, rfl, q1, q2, q3, q4⟩
 refine ⟨_, rfl, ?_⟩
 refine zie X X X<|zJ X X<|Y<|zB<|zc Tryz.results184 ?_
 refine ⟨h2, k, congrArg Ending.returned (zw ?_), q1, q2, q3, q4⟩
 by_cases hlt : k < xs.length
 ·simp [hlt]
 ·simp [hlt]
theorem zeI {xs : List Voter} {v : Value} {g : FuncId} {caps : List Value} (S : Nat → Heap → World → Prop) (p : Nat → Bool)
  (hS : ∀ k h w, S k h w → Sub h w ∧ Sl LVoter h v xs)
  (hf : ∀ k x h w vs, S k h w → xs[k]? = some x → LVoter.R h vs x → ∀ u, u = .agg vs.toArray → Calls Tryz.prog g (u :: caps).toArray w (fun e w' => ∃ h', e = .returned (.bool (p k)) ∧ S (k + 1) h' w'))
  (hg : ∀ a w, (callFunc g a).run Tryz.prog w = .ok (.enter g a) w) {h : Heap} {w : World} (h0 : S 0 h w) :
  Calls Tryz.prog 268 #[v, .func (.func g) #[] caps.toArray] w (fun e w' => ∃ h' k, e = .returned (.int .i64 (if k < xs.length then (k : Int) else -1)) ∧ k ≤ xs.length ∧ (∀ j, j < k → p j = false) ∧ (k < xs.length → p k = true) ∧ S (if k < xs.length then k + 1 else k) h' w') := by
 refine zS (n := 19) Tryz.func268 X X X<|have hb:=(hS 0 h w h0).2.le;W.sr<|zz X X<|Y<|zj<|W.sr<|zaa (v := v) X X<|zaJ (hS 0 h w h0).2 X zaA X<|zk X X<|Y<|zF ?_
 refine zat ([4, 5] ++ t_rg 8 11) (G := Nat × Heap) (fun ⟨k, _⟩ => [(8, .int .i64 (k : Int))]) (fun ⟨k, h'⟩ w' => S k h' w' ∧ k ≤ xs.length ∧ ∀ j, j < k → p j = false) (fun ⟨k, _⟩ => xs.length - k) ⟨0, h⟩ ⟨rfl, trivial⟩ ⟨h0, by omega, by intros; omega⟩ ?_
 rintro ⟨k, h1⟩ _ w1 ⟨hS1, hk, hp⟩
 obtain ⟨hsub, hsl⟩ := hS k h1 w1 hS1
 refine W.sr<|zaV X X X<|Y<|zj ?_
 refine zad rfl (fun c1 => ?_) (fun c1 => ?_)
 ·replace c1 := t_ot c1
  refine zC<|O<|zj<|zF<|W.sr<|zk X X<|zz X X<|Y<|W.sr<|zhr X X<|zaa (v := v) X X<|zk X X ?_
  have hy : ∃ y, xs[k]? = some y := ⟨_, List.getElem?_eq_getElem (by omega)⟩
  obtain ⟨y, hy⟩ := hy
  obtain ⟨b, o, vs, he, hc, hr⟩ := Sl.elem hsl hy
  refine zV he X X (hk := X) (hu := zaA) (hz := zbA) X<|zy hsub hc X Tryz.isAgg79 zbA (LVoter.len hr) X ?_
  refine zaT rfl rfl (zcb (fs := []) (cs := caps) rfl rfl hg rfl) ((hf k y h1 w1 _ hS1 hy hr _ rfl).mono ?_)
  rintro e w2 ⟨h2, rfl, hS2⟩
  refine ⟨_, rfl, ?_⟩
  refine Y ?_
  refine zad rfl (fun c2 => ?_) (fun c2 => ?_)
  ·refine zj ?_
   refine zo<|zk X X<|zz X X<|Y<|zB ?_
   repeat (first | refine zI ?_ | refine zd ?_)
   refine zc Tryz.results268 ?_
   have hlt : k < xs.length := by omega
   exact ⟨h2, k, by rw [if_pos hlt]; rfl, hk, hp, fun _ => c2, by rw [if_pos hlt]; exact hS2⟩
  ·refine zC ?_
   refine zP<|O<|zo ?_
   refine zq rfl rfl (zij rfl rfl (by omega)) ?_
   refine zk X X<|Y ?_
   refine ⟨⟨k + 1, h2⟩, ⟨rfl, trivial⟩, ?_, ⟨hS2, by omega, ?_⟩, ?_⟩
   ·exact zav
   ·intro j hj
    rcases Nat.lt_or_ge j k with h3 | h3
    ·exact hp j h3
    ·obtain rfl : j = k := by omega
     exact c2
   ·show xs.length - (k + 1) < xs.length - k
    omega
 ·replace c1 := t_of c1
  refine zaC<|zh<|zh<|zah<|O<|W.sr<|zz X X<|Y<|zB<|zc Tryz.results268 ?_
  have hlt : ¬ k < xs.length := by omega
  exact ⟨h1, k, by rw [if_neg hlt]; rfl, hk, hp, fun q => absurd q hlt, by rw [if_neg hlt]; exact hS1⟩

theorem zer {xs : List Voter} {v : Value} {g : FuncId} {caps : List Value} (S : Nat → Heap → World → Prop) (p : Nat → Bool)
  (hS : ∀ k h w, S k h w → Sub h w ∧ Sl LVoter h v xs)
  (hf : ∀ k x h w vs, S k h w → xs[k]? = some x → LVoter.R h vs x → ∀ u, u = .agg vs.toArray → Calls Tryz.prog g (u :: caps).toArray w (fun e w' => ∃ h', e = .returned (.bool (p k)) ∧ S (k + 1) h' w'))
  (hg : ∀ a w, (callFunc g a).run Tryz.prog w = .ok (.enter g a) w) {h : Heap} {w : World} (h0 : S 0 h w) :
  Calls Tryz.prog 266 #[v, .func (.func g) #[] caps.toArray] w (fun e w' => ∃ h' k, e = .returned (.bool (decide (k < xs.length))) ∧ k ≤ xs.length ∧ (∀ j, j < k → p j = false) ∧ (k < xs.length → p k = true) ∧ S (if k < xs.length then k + 1 else k) h' w') := by
 refine zS (n := 9) Tryz.func266 X X X<|W.sr<|zJ X X<|Y<|W.sr<|zaa (v := v) X X<|zhr X X ?_
 refine zaT rfl rfl (zbc rfl Tryz.call268 rfl) ((zeI S p hS hf hg h0).mono ?_)
 rintro e w2 ⟨h2, k, rfl, q1, q2, q3, q4⟩
 refine ⟨_, rfl, ?_⟩
 refine zie X X X<|zJ X X<|Y<|zB<|zc Tryz.results266 ?_
 refine ⟨h2, k, congrArg Ending.returned (zw ?_), q1, q2, q3, q4⟩
 by_cases hlt : k < xs.length
 ·simp [hlt]
 ·simp [hlt]
theorem zeJ {xs : List Voter} {v : Value} {g : FuncId} {caps : List Value} {h : Heap} {w : World} (hs : Sub h w) (hx : Sl LVoter h v xs) (q : Voter → Bool)
  (hg : ∀ a w, (callFunc g a).run Tryz.prog w = .ok (.enter g a) w)
  (hf : ∀ x h' w' vs, Le h h' → Sub h' w' → x ∈ xs → LVoter.R h' vs x → ∀ u, u = .agg vs.toArray → Calls Tryz.prog g (u :: caps).toArray w' (Rets h' w' fun _ _ r => r = .bool (q x))) :
  Calls Tryz.prog 266 #[v, .func (.func g) #[] caps.toArray] w (Rets h w fun _ _ r => r = .bool (xs.any q)) := by
 refine (zer (fun k h' w' => St h w h' w' [] ∧ k ≤ xs.length) (fun k => ((xs[k]?).map q).getD false) (fun k h' w' hk => ⟨hk.1.sub, hx.up hk.1.le⟩) ?_ hg ⟨St.start hs, Nat.zero_le _⟩).mono ?_
 ·rintro k x h' w' vs ⟨st, _⟩ hk hr u hu
  refine (hf x h' w' vs st.le st.sub (List.mem_of_getElem? hk) hr u hu).mono ?_
  rintro e w'' ⟨h'', r, rfl, s, rfl⟩
  obtain ⟨hlt, _⟩ := List.getElem?_eq_some_iff.1 hk
  exact ⟨h'', by simp [hk], st.call0 s, hlt⟩
 ·rintro e w' ⟨h', k, rfl, q1, q2, q3, q4⟩
  refine ⟨h', _, rfl, q4.1, zw ?_⟩
  by_cases hlt : k < xs.length
  ·have h3 := q3 hlt
   rw [List.getElem?_eq_getElem hlt] at h3
   simp only [Option.map_some, Option.getD_some] at h3
   have : xs.any q = true := List.any_eq_true.2 ⟨_, List.getElem_mem hlt, h3⟩
   simp [hlt, this]
  ·have : xs.any q = false := by
    rw [List.any_eq_false]
    intro x hx'
    obtain ⟨j, hj⟩ := List.mem_iff_getElem?.1 hx'
    obtain ⟨h5, _⟩ := List.getElem?_eq_some_iff.1 hj
    have := q2 j (by omega)
    simpa [hj] using this
   simp [hlt, this]
end Go.Pk

namespace Go.Pk
open Go Go.RowKit Go.Proofs
theorem c_leaf_in_1 {h : Heap} {w : World} (hs : Sub h w) (n : Int) {lo_b : Nat} {lo : Int} (lo_c : Cells h lo_b 0 [.int .i64 lo]) {hi_b : Nat} {hi : Int} (hi_c : Cells h hi_b 0 [.int .i64 hi]) : Calls Tryz.prog 216 #[.int .i64 n, .pointer (some ⟨lo_b, 0, none⟩), .pointer (some ⟨hi_b, 0, none⟩)] w (Rets h w (fun _ _ res_ => res_ = .bool ((decide (n < lo) || decide (hi < n))))) := by
 refine zS (n := 13) Tryz.func216 X X X<|have st0:=t_s0 hs;W.sr<|zJ X X<|Y<|W.sr<|zk X X<|E (j := 0) st0.sub lo_c X X X zN X<|zaV X X X<|zai X X ?_
 refine zaB (d := 8) rfl (fun g1 => ?_) (fun g1 => ?_)
 ·
  refine Z X X X X X<|Z X X X X X<|Z X X X X X<|zaf (v := (.bool _)) X X X<|zJ X X<|Y<|zB<|zc Tryz.results216 ?_
  refine ⟨h, _, rfl, st0.done, ?_⟩
  refine zw ?_
  first | (simp_all; done) | (simp_all; omega)
 refine M X X X<|zk X X<|M X X X<|E (j := 0) st0.sub hi_c X X X zN X<|M X X X<|zdr X X X<|zX (v := (.bool _)) X X X<|zJ X X<|Y<|zB<|zc Tryz.results216 ?_
 refine ⟨h, _, rfl, st0.done, ?_⟩
 refine zw ?_
 first | (simp_all; done) | (simp_all; omega)
theorem zfn {h : Heap} {w : World} (hs : Sub h w) (lo : Int) (hi : Int) {all__v : Value} {all_ : (List Int)} (all__f : Sl LInt h all__v all_) : Calls Tryz.prog 164 #[.int .i64 lo, .int .i64 hi, all__v] w (Rets h w (fun _ _ res_ => res_ = .bool (zcJ all_ lo hi))) := by
 refine zS (n := 11) Tryz.func164 X X X<|have st0:=t_s0 hs;have all__f_b:=all__f.le;W.sr<|zG st0 (cs := [.int .i64 lo]) X X X<|fun b1 w2 h3 le4 hc5 st6=>zG st6 (cs := [.int .i64 hi]) X X X<|fun b7 w8 h9 le10 hc11 st12=>zJ X X<|Y<|W.sr<|zaa (v := all__v) X X<|zdl X X X ?_
 have l13 := le4.trans le10
 refine zn st12 rfl rfl rfl Tryz.call101 rfl (zdq st12.sub (all__f.up l13) (fun x_ => (decide ((x_) < (lo)) || decide ((hi) < (x_)))) Tryz.call216 (fun x_ h_ w_ vs_ le_ hs_ hx_ hr_ u_ hu_ => by cases hu_; cases hr_; exact c_leaf_in_1 hs_ _ (lo := lo) ((hc5.up le10).up le_) (hi := hi) (hc11.up le_))) ?_
 intro r14 w15 h16 le17 st18 q19
 obtain rfl := q19
 refine zbQ X X<|zJ X X<|Y<|zB<|zc Tryz.results164 ?_
 refine ⟨h16, _, rfl, st18.done, ?_⟩
 refine zw ?_
 exact inAll_eq all_ lo hi
theorem c_stem_in_1 {h : Heap} {w : World} (hs : Sub h w) (n : Int) {lo_b : Nat} {lo : Int} (lo_c : Cells h lo_b 0 [.int .i64 lo]) {hi_b : Nat} {hi : Int} (hi_c : Cells h hi_b 0 [.int .i64 hi]) : Calls Tryz.prog 183 #[.int .i64 n, .pointer (some ⟨lo_b, 0, none⟩), .pointer (some ⟨hi_b, 0, none⟩)] w (Rets h w (fun _ _ res_ => res_ = .bool ((decide (n < lo) || decide (hi < n))))) := by
 refine zS (n := 13) Tryz.func183 X X X<|have st0:=t_s0 hs;W.sr<|zJ X X<|Y<|W.sr<|zk X X<|E (j := 0) st0.sub lo_c X X X zN X<|zaV X X X<|zai X X ?_
 refine zaB (d := 8) rfl (fun g1 => ?_) (fun g1 => ?_)
 ·
  refine Z X X X X X<|Z X X X X X<|Z X X X X X<|zaf (v := (.bool _)) X X X<|zJ X X<|Y<|zB<|zc Tryz.results183 ?_
  refine ⟨h, _, rfl, st0.done, ?_⟩
  refine zw ?_
  first | (simp_all; done) | (simp_all; omega)
 refine M X X X<|zk X X<|M X X X<|E (j := 0) st0.sub hi_c X X X zN X<|M X X X<|zdr X X X<|zX (v := (.bool _)) X X X<|zJ X X<|Y<|zB<|zc Tryz.results183 ?_
 refine ⟨h, _, rfl, st0.done, ?_⟩
 refine zw ?_
 first | (simp_all; done) | (simp_all; omega)
theorem zir {h : Heap} {w : World} (hs : Sub h w) (lo : Int) (hi : Int) {all__v : Value} {all_ : (List Int)} (all__f : Sl LInt h all__v all_) : Calls Tryz.prog 135 #[.int .i64 lo, .int .i64 hi, all__v] w (Rets h w (fun _ _ res_ => res_ = .bool (zcJ all_ lo hi))) := by
 refine zS (n := 11) Tryz.func135 X X X<|have st0:=t_s0 hs;have all__f_b:=all__f.le;W.sr<|zG st0 (cs := [.int .i64 lo]) X X X<|fun b1 w2 h3 le4 hc5 st6=>zG st6 (cs := [.int .i64 hi]) X X X<|fun b7 w8 h9 le10 hc11 st12=>zJ X X<|Y<|W.sr<|zaa (v := all__v) X X<|zdl X X X ?_
 have l13 := le4.trans le10
 refine zn st12 rfl rfl rfl Tryz.call101 rfl (zdq st12.sub (all__f.up l13) (fun x_ => (decide ((x_) < (lo)) || decide ((hi) < (x_)))) Tryz.call183 (fun x_ h_ w_ vs_ le_ hs_ hx_ hr_ u_ hu_ => by cases hu_; cases hr_; exact c_stem_in_1 hs_ _ (lo := lo) ((hc5.up le10).up le_) (hi := hi) (hc11.up le_))) ?_
 intro r14 w15 h16 le17 st18 q19
 obtain rfl := q19
 refine zbQ X X<|zJ X X<|Y<|zB<|zc Tryz.results135 ?_
 refine ⟨h16, _, rfl, st18.done, ?_⟩
 refine zw ?_
 exact inAll_eq all_ lo hi
theorem c_leaf_word_1 {h : Heap} {w : World} (hs : Sub h w) (b : Int) (b_l : 0 ≤ b ∧ b ≤ 255) : Calls Tryz.prog 222 #[.int .u8 b] w (Rets h w (fun _ _ res_ => res_ = .bool ((decide (b < 97) || decide (122 < b))))) := by
 refine zS (n := 9) Tryz.func222 X X X<|have st0:=t_s0 hs;W.sr<|zJ X X<|Y<|W.sr<|zk X X<|zaV X X X<|zai X X ?_
 refine zaB (d := 5) rfl (fun g1 => ?_) (fun g1 => ?_)
 ·
  refine Z X X X X X<|Z X X X X X<|zaf (v := (.bool _)) X X X<|zJ X X<|Y<|zB<|zc Tryz.results222 ?_
  refine ⟨h, _, rfl, st0.done, ?_⟩
  refine zw ?_
  first | (simp_all; done) | (simp_all; omega)
 refine M X X X<|zk X X<|M X X X<|zdr X X X<|zX (v := (.bool _)) X X X<|zJ X X<|Y<|zB<|zc Tryz.results222 ?_
 refine ⟨h, _, rfl, st0.done, ?_⟩
 refine zw ?_
 first | (simp_all; done) | (simp_all; omega)
theorem c_leaf_word {h : Heap} {w : World} (hs : Sub h w) (s : Str) (s_le : s.length ≤ 281474976710656) : Calls Tryz.prog 178 #[strV s] w (Rets h w (fun _ _ res_ => res_ = .bool (zdy s))) := by
 refine zS (n := 13) Tryz.func178 X X X<|have st0:=t_s0 hs;W.sr<|zJ X X<|Y<|W.sr<|zbX X X<|zco X zaz X<|zaL (L := LInt) (xs := [(s.length : Int)]) (cs := [.int .i64 (s.length : Int)]) st0 (Enc.cons (L := LInt) (vs := [.int .i64 (s.length : Int)]) (x := (s.length : Int)) (h := h) (X) Enc.nil) X X X zp Tryz.info3 X X X t_kr<|fun v1 w2 h5 le6 f3 st4=>zn st4 X X X zft X (zfn st4.sub _ _ f3)<|fun r7 w8 h9 le10 st11 q12=> ?_
 obtain rfl := q12
 refine zai X X ?_
 refine zaY (d := 7) rfl (fun g13 => ?_) (fun g13 => ?_)
 ·
  refine M X X X<|zbX X X<|M X X X ?_
  refine OpsL.strBytes st11 (s := s) rfl (by first | assumption | omega | (simp; omega)) rfl zaz Tryz.underlying215 Tryz.underlying5 zbn ?_
  intro v14 w15 h16 le17 f18 st19
  refine M X X X ?_
  refine zn st19 rfl rfl rfl Tryz.call139 rfl (zek st19.sub f18 (fun x_ => (decide ((x_) < 97) || decide (122 < (x_)))) Tryz.call222 (fun x_ h_ w_ vs_ le_ hs_ hx_ hr_ u_ hu_ => by cases hu_; obtain ⟨hr1_, hr2_⟩ := hr_; cases hr1_; exact c_leaf_word_1 hs_ _ hr2_)) ?_
  intro r20 w21 h22 le23 st24 q25
  obtain rfl := q25
  refine M X X X<|zbQ X X<|zaf (v := (.bool _)) X X X<|zJ X X<|Y<|zB<|zc Tryz.results178 ?_
  refine ⟨h22, _, rfl, st24.done, ?_⟩
  refine zw ?_
  simp_all [wordB_eq]
 refine Z X X X X X<|Z X X X X X<|Z X X X X X<|Z X X X X X<|zX (v := (.bool _)) X X X<|zJ X X<|Y<|zB<|zc Tryz.results178 ?_
 refine ⟨h9, _, rfl, st11.done, ?_⟩
 refine zw ?_
 simp_all [wordB_eq]
theorem c_leaf_Check_1 {h : Heap} {w : World} (hs : Sub h w) (s : Str) (s_le : s.length ≤ 281474976710656) : Calls Tryz.prog 177 #[strV s] w (Rets h w (fun _ _ res_ => res_ = .bool ((!zdy s)))) := by
 refine zS (n := 6) Tryz.func177 X X X<|have st0:=t_s0 hs;W.sr<|zJ X X<|Y<|W.sr<|zbX X X<|zn st0 X X X Tryz.call178 X (c_leaf_word st0.sub _ zba)<|fun r1 w2 h3 le4 st5 q6=> ?_
 obtain rfl := q6
 refine zbQ X X<|zJ X X<|Y<|zB<|zc Tryz.results177 ?_
 refine ⟨h3, _, rfl, st5.done, ?_⟩
 refine zw ?_
 rfl
theorem c_leaf_Check {h : Heap} {w : World} (hs : Sub h w) {t : Text} {t_v0 : Value} (t_f0 : Sl LChapter h t_v0 t.chapters) : Calls Tryz.prog 131 #[.agg #[t_v0]] w (Rets h w (fun _ _ res_ => res_ = .int .i64 ((if zbu t then 0 else 10)))) := by
 refine zS (n := 64) Tryz.func131 X X X<|have st0:=t_s0 hs;have t_f0_b:=t_f0.le;W.sr<|zG st0 (cs := [t_v0]) X X X<|fun b1 w2 h3 le4 hc5 st6=>zz X X<|Y<|W.scope<|zj<|W.sr<|U X zaF X zbi X X<|E (j := 0) st6.sub hc5 X X X zby X<|zaJ (t_f0.up le4) X zay X<|zaL (L := LInt) (xs := [(t.chapters.length : Int)]) (cs := [.int .i64 (t.chapters.length : Int)]) st6 (Enc.cons (L := LInt) (vs := [.int .i64 (t.chapters.length : Int)]) (x := (t.chapters.length : Int)) (h := h3) (X) Enc.nil) X X X zp Tryz.info3 X X X t_kr<|fun v7 w8 h11 le12 f9 st10=>zn st10 X X X zft X (zfn st10.sub _ _ f9)<|fun r13 w14 h15 le16 st17 q18=> ?_
 obtain rfl := q18
 refine zbQ X X<|Y ?_
 refine zad rfl (fun c19 => ?_) (fun c19 => ?_)
 ·
  refine W.sr<|zz X X<|Y<|zB<|zd<|zez<|zc zeN ?_
  refine ⟨h15, _, rfl, st17.done, ?_⟩
  refine zar ?_
  simp_all [zbu]
 refine zC<|O<|W.sr<|zz X X<|Y<|W.sr<|zgq (κ := Int) (υ := Bool) (ek := (fun n : Int => .int .i64 n)) (eu := (fun b : Bool => .bool b)) st17 X<|fun v20 o21 w22 f23 st24=> ?_
 obtain ⟨mb25, rfl⟩ := f23.form
 have nd26 : (([] : List (Int × Bool)).map (·.1)).Nodup := by simp
 refine zaj (v := (.map (some mb25))) X X<|Y<|zj<|W.label<|O<|zj<|W.sr<|U X zaF X zbi X X<|E (j := 0) st24.sub (hc5.up (le12.trans le16)) X X X zby X<|have l27:=(le4.trans le12).trans le16;zaJ (t_f0.up l27) X zay X<|zk X X<|Y<|zF ?_
 refine zat ([2, 3, 6, 8] ++ t_rg 19 44) (G := Nat × List (Int × Bool) × List (Nat × Obj) × Heap) (fun ⟨i, m, o_4, h28⟩ => [(3, .int .i64 0), (19, .int .i64 (i : Int))]) (fun ⟨i, m, o_4, h28⟩ w' => Le h15 h28 ∧ St h w h28 w' [o_4] ∧ (OM (fun n : Int => .int .i64 n) (fun b : Bool => .bool b) (m) o_4 (.map (some mb25))) ∧ (((m).map (·.1)).Nodup) ∧ (i ≤ t.chapters.length) ∧ ((t.chapters.take i).all zbT = true) ∧ (((t.chapters.take i).map (·.id)).Nodup) ∧ (∀ k, (look m k).getD false = decide (k ∈ (t.chapters.take i).map (·.id)))) (fun ⟨i, m, o_4, h28⟩ => t.chapters.length - i) ⟨0, [], o21, h15⟩ ⟨rfl, rfl, trivial⟩ ⟨Le.refl _, st24, (by have q := f23; exact q), (by have q := nd26; exact q), zaM, zaM, zaM, (by intro k; simp [look])⟩ ?_
 rintro ⟨i, m, o_4, h28⟩ _ w31 ⟨le29, st30, hM_4, hN_4, hi, hA, hN, hm⟩
 refine W.sr<|zaV X X X<|Y<|zj ?_
 refine zH rfl (fun c32 => ?_) (fun c32 => ?_)
 ·
  refine zC<|O<|zj<|zF<|W.sr ?_
  obtain ⟨c, hc⟩ : ∃ y_, (t.chapters)[i]? = some y_ := t_ge (by omega)
  have l37 := l27.trans le29
  obtain ⟨b33, o34, _, he36, hc35, hr_c⟩ := Sl.elem (t_f0.up l37) hc
  obtain ⟨v38, rfl, f39⟩ := hr_c
  have f39_b := f39.le
  refine zV he36 X X (hk := X) (hu := zay) (hz := zbg) X<|zy st30.sub hc35 X Tryz.isAgg152 zbg X X<|zae st30 zex X X<|fun b40 w41 st42=>zM st42 (k := 1) X X X (za X (za f39.one zap)) zbg X X X<|fun w43 st44=> ?_
  obtain ⟨h45, le46, hb47, st49⟩ := st44.freeze (k := 1) rfl
  have hc48 := Cells.of hb47
  refine Y<|zj<|W.sr<|U X zal X zr X X<|E (j := 0) st49.sub hc48 X X X zN X<|zaL (L := LInt) (xs := [(c.id)]) (cs := [.int .i64 (c.id)]) st49 (Enc.cons (L := LInt) (vs := [.int .i64 (c.id)]) (x := (c.id)) (h := h45) (X) Enc.nil) X X X zp Tryz.info3 X X X t_kr<|fun v50 w51 h54 le55 f52 st53=>zn st53 X X X zft X (zfn st53.sub _ _ f52)<|fun r56 w57 h58 le59 st60 q61=> ?_
  obtain rfl := q61
  refine zbQ X X<|zai X X ?_
  refine zaY (d := 28) rfl (fun g62 => ?_) (fun g62 => ?_)
  ·
   refine Z X X X X X<|Z X X X X X<|Z X X X X X<|Z X X X X X<|zaf (v := (.bool _)) X X X<|zai X X<|Z X X X X X<|Z X X X X X<|Z X X X X X<|Z X X X X X<|Z X X X X X<|Z X X X X X<|zaf (v := (.bool _)) X X X<|Y ?_
   refine zad rfl (fun c63 => ?_) (fun c63 => ?_)
   ·
    refine W.sr<|zz X X<|Y<|zB<|zd<|zI<|zd<|zd<|zI<|zd<|zez<|zc zeN ?_
    refine ⟨h58, _, rfl, st60.done, ?_⟩
    refine zar ?_
    have q0 : zbT c = false := by
     have q := g62
     simp at q
     simp [zbT, q]
    have q := zcC (p := zbT) hc q0
    simp [zbu, q]
   cases c63
  refine M X X X<|zaa (v := (.map (some mb25))) X X<|M X X X<|U X zal X zr X X<|M X X X<|E (j := 0) st60.sub (hc48.up (le55.trans le59)) X X X zN X<|M X X X<|zq X X (r_look (k := (c.id)) (zu := false) (ziC zcE) Tryz.underlying207 hM_4 (st60.ent (k := 0) X) Tryz.zeroValue4 X X X)<|zX (v := (.bool _)) X X X<|zai X X ?_
  refine zaY (d := 34) rfl (fun g64 => ?_) (fun g64 => ?_)
  ·
   refine Z X X X X X<|Z X X X X X<|Z X X X X X<|Z X X X X X<|Z X X X X X<|Z X X X X X<|zaf (v := (.bool _)) X X X<|Y ?_
   refine zad rfl (fun c65 => ?_) (fun c65 => ?_)
   ·
    refine W.sr<|zz X X<|Y<|zB<|zd<|zI<|zd<|zd<|zI<|zd<|zez<|zc zeN ?_
    refine ⟨h58, _, rfl, st60.done, ?_⟩
    refine zar ?_
    have q0 := g64
    rw [hm] at q0
    have q := zhY (f := (·.id)) hc (by simpa using q0)
    simp [zbu, q]
   cases c65
  refine M X X X<|U X zal X zbq X X<|M X X X<|E (j := 1) st60.sub (hc48.up (le55.trans le59)) X X X zbH X<|M X X X<|zaJ (f39.up ((le46.trans le55).trans le59)) X zaH X<|M X X X<|zaL (L := LInt) (xs := [(c.lines.length : Int)]) (cs := [.int .i64 (c.lines.length : Int)]) st60 (Enc.cons (L := LInt) (vs := [.int .i64 (c.lines.length : Int)]) (x := (c.lines.length : Int)) (h := h58) (X) Enc.nil) X X X zp Tryz.info3 X X X t_kr<|fun v66 w67 h70 le71 f68 st69=>M X X X<|zn st69 X X X zft X (zfn st69.sub _ _ f68)<|fun r72 w73 h74 le75 st76 q77=> ?_
  obtain rfl := q77
  refine M X X X<|zbQ X X<|zX (v := (.bool _)) X X X<|Y ?_
  refine zad rfl (fun c78 => ?_) (fun c78 => ?_)
  ·
   refine W.sr<|zz X X<|Y<|zB<|zd<|zI<|zd<|zd<|zI<|zd<|zez<|zc zeN ?_
   refine ⟨h74, _, rfl, st76.done, ?_⟩
   refine zar ?_
   have q0 : zbT c = false := by
    have q := c78
    simp at q
    simp [zbT, q]
   have q := zcC (p := zbT) hc q0
   simp [zbu, q]
  refine zC<|O<|W.sr<|zaa (v := (.map (some mb25))) X X<|U X zal X zr X X<|have l79:=((le55.trans le59).trans le71).trans le75;E (j := 0) st76.sub (hc48.up l79) X X X zN X<|zey (i := 0) st76 hM_4 X hN_4 (ziC zcE) Tryz.underlying207 X (k := (c.id)) X (u := true) X<|fun o80 w81 _ e82 f83 nd84 st85=> ?_
  subst e82
  refine Y<|W.sr<|U X zal X zbq X X<|E (j := 1) st85.sub (hc48.up l79) X X X zbH X<|have l86:=(((le46.trans le55).trans le59).trans le71).trans le75;zaJ (f39.up l86) X zaH X<|zk X X<|Y<|zF ?_
  refine zat ([3, 8] ++ t_rg 48 14) (G := Nat × List (Nat × Obj) × Heap) (fun ⟨k2, o_4, h87⟩ => [(3, .int .i64 0), (48, .int .i64 (k2 : Int))]) (fun ⟨k2, o_4, h87⟩ w' => Le h74 h87 ∧ St h w h87 w' [o_4, []] ∧ (OM (fun n : Int => .int .i64 n) (fun b : Bool => .bool b) (putM m c.id true) o_4 (.map (some mb25))) ∧ (((putM m c.id true).map (·.1)).Nodup) ∧ (k2 ≤ c.lines.length) ∧ ((c.lines.take k2).all zgh = true)) (fun ⟨k2, o_4, h87⟩ => c.lines.length - k2) ⟨0, o80, h74⟩ ⟨rfl, rfl, trivial⟩ ⟨Le.refl _, st85, (by have q := f83; exact q), (by have q := nd84; exact q), zaM, zaM⟩ ?_
  rintro ⟨k2, o_4, h87⟩ _ w90 ⟨le88, st89, hM_4, hN_4, hk2, hl⟩
  refine W.sr<|zaV X X X<|Y<|zj ?_
  refine zH rfl (fun c91 => ?_) (fun c91 => ?_)
  ·
   refine zC<|O<|zj<|zF<|W.sr ?_
   obtain ⟨ln, hln⟩ : ∃ y_, (c.lines)[k2]? = some y_ := t_ge (by omega)
   obtain ⟨b92, o93, _, he95, hc94, hr_ln⟩ := Sl.elem (f39.up (l86.trans le88)) hln
   obtain ⟨v96, rfl, f97⟩ := hr_ln
   have f97_b := f97.le
   refine zV he95 X X (hk := X) (hu := zaH) (hz := zcV) X<|E (j := 0) st89.sub hc94 X X X zdk X<|zaj (v := v96) X X<|Y<|W.sr<|zaa (v := v96) X X<|zaJ f97 X zA X<|zaL (L := LInt) (xs := [(ln.length : Int)]) (cs := [.int .i64 (ln.length : Int)]) st89 (Enc.cons (L := LInt) (vs := [.int .i64 (ln.length : Int)]) (x := (ln.length : Int)) (h := h87) (X) Enc.nil) X X X zp Tryz.info3 X X X t_kr<|fun v98 w99 h102 le103 f100 st101=>zn st101 X X X zft X (zfn st101.sub _ _ f100)<|fun r104 w105 h106 le107 st108 q109=> ?_
   obtain rfl := q109
   refine zbQ X X<|zai X X ?_
   refine zaY (d := 57) rfl (fun g110 => ?_) (fun g110 => ?_)
   ·
    refine Z X X X X X<|Z X X X X X<|zaf (v := (.bool _)) X X X<|Y ?_
    refine zad rfl (fun c111 => ?_) (fun c111 => ?_)
    ·
     refine W.sr<|zz X X<|Y<|zaC<|zgr X<|zh<|zh<|zgr X<|zgr X<|zh<|zh<|zah<|O<|W.sr<|zk X X<|zz X X<|Y<|zB<|zez<|zc zeN ?_
     refine ⟨h106, _, rfl, st108.done, ?_⟩
     refine zar ?_
     have q1 : zgh ln = false := by
      have q := g110
      simp at q
      simp [zgh, q]
     have q2 := zcC (p := zgh) hln q1
     have q0 : zbT c = false := by simp [zbT, q2]
     have q := zcC (p := zbT) hc q0
     simp [zbu, q]
    cases c111
   refine M X X X<|zaa (v := v96) X X<|M X X X ?_
   refine zn st108 rfl rfl rfl Tryz.call176 rfl (zfz st108.sub (f97.up (le103.trans le107)) (fun x_ => (!zdy (x_))) Tryz.call177 (fun x_ h_ w_ vs_ le_ hs_ hx_ hr_ u_ hu_ => by cases hu_; obtain ⟨hr1_, hr2_⟩ := hr_; cases hr1_; simp only [big] at hr2_; exact c_leaf_Check_1 hs_ _ hr2_)) ?_
   intro r112 w113 h114 le115 st116 q117
   obtain rfl := q117
   refine zX (v := (.bool _)) X X X<|Y ?_
   refine zad rfl (fun c118 => ?_) (fun c118 => ?_)
   ·
    refine W.sr<|zz X X<|Y<|zaC<|zgr X<|zh<|zh<|zgr X<|zgr X<|zh<|zh<|zah<|O<|W.sr<|zk X X<|zz X X<|Y<|zB<|zez<|zc zeN ?_
    refine ⟨h114, _, rfl, st116.done, ?_⟩
    refine zar ?_
    have q1 : zgh ln = false := by
     have q := c118
     rw [any_not] at q
     simp only [zgh, Bool.and_eq_false_iff]
     right; simpa using q
    have q2 := zcC (p := zgh) hln q1
    have q0 : zbT c = false := by simp [zbT, q2]
    have q := zcC (p := zbT) hc q0
    simp [zbu, q]
   refine zC<|zP<|O<|zo<|zaP X X t_om X<|zk X X<|Y ?_
   have l119 := ((le88.trans le103).trans le107).trans le115
   refine ⟨⟨k2 + 1, o_4, h114⟩, ⟨rfl, rfl, trivial⟩, ?_, ⟨l119, st116, ?_, ?_, ?_, ?_⟩, ?_⟩
   ·exact zav
   ·have q := hM_4
    exact q
   ·have q := hN_4
    exact q
   ·first | omega | (simp; omega)
   ·exact zbY hl hln (by simp_all [zgh])
   show c.lines.length - ((k2 + 1)) < c.lines.length - k2
   omega
  refine zaC<|zh<|zh<|zah<|zP<|O<|zo<|zaP X X t_om X<|zk X X<|Y ?_
  have HCH : zbT c = true := by
   have q := zcN hl (by omega)
   simp_all [zbT]
  have HD : (look m c.id).getD false = false := by simp_all
  have l120 := (((((le29.trans le46).trans le55).trans le59).trans le71).trans le75).trans le88
  refine ⟨⟨i + 1, putM m c.id true, o_4, h87⟩, ⟨rfl, rfl, trivial⟩, ?_, ⟨l120, st89.take 1, ?_, ?_, ?_, ?_, ?_, ?_⟩, ?_⟩
  ·exact zav
  ·have q := hM_4
   exact q
  ·have q := hN_4
   exact q
  ·first | omega | (simp; omega)
  ·exact zbY hA hc HCH
  ·rw [zbb hc, List.map_append, List.nodup_append]
   refine ⟨hN, by simp, ?_⟩
   intro a ha b hb e
   simp only [List.map_cons, List.map_nil, List.mem_singleton] at hb
   subst hb
   subst e
   rw [hm] at HD
   exact absurd ha (by simpa using HD)
  ·intro k
   rw [look_putM, zbb hc, List.map_append]
   by_cases e : k = c.id
   ·simp [e]
   ·simp only [if_neg e, hm]
    simp [e]
  show t.chapters.length - ((i + 1)) < t.chapters.length - i
  omega
 refine zaC<|zh<|zh<|zah<|O<|W.sr<|zk X X<|zz X X<|Y<|zB<|zez<|zc zeN ?_
 refine ⟨h28, _, rfl, st30.done, ?_⟩
 refine zar ?_
 have q := zcN hA (by omega)
 have q2 : t.chapters.take i = t.chapters := List.take_of_length_le (by omega)
 rw [q2] at hN
 simp_all [zbu]
end Go.Pk

namespace Go.Pk
open Go Go.RowKit Go.Proofs
theorem zfZ {h : Heap} {w : World} (hs : Sub h w) {a_v : Value} {a : (List Str)} (a_f : Sl LStr h a_v a) {b_v : Value} {b : (List Str)} (b_f : Sl LStr h b_v b) : Calls Tryz.prog 32 #[a_v, b_v] w (Rets h w (fun _ _ res_ => res_ = .bool (decide (a = b)))) := by
 refine zS (n := 26) Tryz.func32 X X X<|have st0:=t_s0 hs;have a_f_b:=a_f.le;have b_f_b:=b_f.le;W.sr<|zJ X X<|Y<|zj<|W.sr<|zaa (v := a_v) X X<|zaJ a_f X zA X<|zaa (v := b_v) X X<|zaJ b_f X zA X<|zcF X X X<|Y ?_
 refine zH rfl (fun c1 => ?_) (fun c1 => ?_)
 ·
  refine W.sr<|zJ X X<|Y<|zB<|zd<|zc Tryz.results32 ?_
  refine ⟨h, _, rfl, st0.done, ?_⟩
  refine zw ?_
  have q : a ≠ b := by
   rintro rfl
   simp_all
  simp [q]
 refine zC<|O<|zj<|W.sr<|zz X X<|Y<|zF ?_
 refine zat ([4, 5] ++ t_rg 11 15) (G := Nat × Heap) (fun ⟨k, h2⟩ => [(5, .int .i64 (k : Int))]) (fun ⟨k, h2⟩ w' => Le h h2 ∧ St h w h2 w' [] ∧ (k ≤ a.length) ∧ (a.take k = b.take k)) (fun ⟨k, h2⟩ => a.length - k) ⟨0, h⟩ ⟨rfl, trivial⟩ ⟨Le.refl _, st0, zaM, zaM⟩ ?_
 rintro ⟨k, h2⟩ _ w5 ⟨le3, st4, hk, he⟩
 refine zj<|W.sr<|zk X X<|zaa (v := a_v) X X<|zaJ (a_f.up le3) X zA X<|zaV X X X<|Y ?_
 refine zH rfl (fun c6 => ?_) (fun c6 => ?_)
 ·
  refine zC<|O<|zj<|zF<|zj<|zbj Tryz.mixed t_kr (Cls h2 _) (Cls.drew st4)<|zdn (v := a_v) X X<|zbJ X X ?_
  obtain ⟨x, hx⟩ : ∃ y_, (a)[k]? = some y_ := t_ge (by omega)
  obtain ⟨b7, o8, _, he10, hc9, hr_x⟩ := Sl.elem (a_f.up le3) hx
  obtain ⟨rfl, ls11⟩ := hr_x
  simp only [big] at ls11
  refine zaG he10 X X (hk := X) (hu := zA) (hz := zW) X<|zl X X (fun _ hC => (ze (j := 0) hC.sub hc9 X X X zaw))<|zdn (v := b_v) X X<|zbJ X X ?_
  obtain ⟨y, hy⟩ : ∃ y_, (b)[k]? = some y_ := t_ge (by omega)
  obtain ⟨b12, o13, _, he15, hc14, hr_y⟩ := Sl.elem (b_f.up le3) hy
  obtain ⟨rfl, ls16⟩ := hr_y
  simp only [big] at ls16
  refine zaG he15 X X (hk := X) (hu := zA) (hz := zW) X<|zl X X (fun _ hC => (ze (j := 0) hC.sub hc14 X X X zaw))<|zl X X (fun _ _ => (r_sneq X X))<|zaN ?_
  rintro w17 ⟨h18, s19⟩
  have st20 := st4.call0 s19
  refine O ?_
  refine zH rfl (fun c21 => ?_) (fun c21 => ?_)
  ·
   refine W.sr<|zJ X X<|Y<|zB<|zI<|zd<|zd<|zI<|zd<|zc Tryz.results32 ?_
   refine ⟨h18, _, rfl, st20.done, ?_⟩
   refine zw ?_
   have q := zdz hx hy (by simpa using c21)
   simp [q]
  refine zC<|zP<|O<|zo<|zk X X<|zaP X X t_om X<|zz X X<|Y ?_
  have l22 := le3.trans s19.le
  refine ⟨⟨k + 1, h18⟩, ⟨rfl, trivial⟩, ?_, ⟨l22, st20, ?_, ?_⟩, ?_⟩
  ·exact zav
  ·first | omega | (simp; omega)
  ·exact zdI he hx hy (by simpa using c21)
  show a.length - ((k + 1)) < a.length - k
  omega
 refine zaC<|zh<|zh<|zah<|O<|W.sr<|zJ X X<|Y<|zB<|zc Tryz.results32 ?_
 refine ⟨h2, _, rfl, st4.done, ?_⟩
 refine zw ?_
 have q := zeH he (by omega) (by omega)
 simp [q]
theorem ziJ {h : Heap} {w : World} (hs : Sub h w) {a_v : Value} {a : (List Int)} (a_f : Sl LInt h a_v a) {b_v : Value} {b : (List Int)} (b_f : Sl LInt h b_v b) : Calls Tryz.prog 21 #[a_v, b_v] w (Rets h w (fun _ _ res_ => res_ = .bool (decide (a = b)))) := by
 refine zS (n := 26) Tryz.func21 X X X<|have st0:=t_s0 hs;have a_f_b:=a_f.le;have b_f_b:=b_f.le;W.sr<|zJ X X<|Y<|zj<|W.sr<|zaa (v := a_v) X X<|zaJ a_f X zp X<|zaa (v := b_v) X X<|zaJ b_f X zp X<|zcF X X X<|Y ?_
 refine zH rfl (fun c1 => ?_) (fun c1 => ?_)
 ·
  refine W.sr<|zJ X X<|Y<|zB<|zd<|zc Tryz.results21 ?_
  refine ⟨h, _, rfl, st0.done, ?_⟩
  refine zw ?_
  have q : a ≠ b := by
   rintro rfl
   simp_all
  simp [q]
 refine zC<|O<|zj<|W.sr<|zz X X<|Y<|zF ?_
 refine zat ([4, 5] ++ t_rg 11 15) (G := Nat × Heap) (fun ⟨k, h2⟩ => [(5, .int .i64 (k : Int))]) (fun ⟨k, h2⟩ w' => Le h h2 ∧ St h w h2 w' [] ∧ (k ≤ a.length) ∧ (a.take k = b.take k)) (fun ⟨k, h2⟩ => a.length - k) ⟨0, h⟩ ⟨rfl, trivial⟩ ⟨Le.refl _, st0, zaM, zaM⟩ ?_
 rintro ⟨k, h2⟩ _ w5 ⟨le3, st4, hk, he⟩
 refine zj<|W.sr<|zk X X<|zaa (v := a_v) X X<|zaJ (a_f.up le3) X zp X<|zaV X X X<|Y ?_
 refine zH rfl (fun c6 => ?_) (fun c6 => ?_)
 ·
  refine zC<|O<|zj<|zF<|zj<|zbj Tryz.mixed t_kr (Cls h2 _) (Cls.drew st4)<|zdn (v := a_v) X X<|zbJ X X ?_
  obtain ⟨x, hx⟩ : ∃ y_, (a)[k]? = some y_ := t_ge (by omega)
  obtain ⟨b7, o8, _, he10, hc9, hr_x⟩ := Sl.elem (a_f.up le3) hx
  obtain rfl := hr_x
  refine zaG he10 X X (hk := X) (hu := zp) (hz := zr) X<|zl X X (fun _ hC => (ze (j := 0) hC.sub hc9 X X X zN))<|zdn (v := b_v) X X<|zbJ X X ?_
  obtain ⟨y, hy⟩ : ∃ y_, (b)[k]? = some y_ := t_ge (by omega)
  obtain ⟨b11, o12, _, he14, hc13, hr_y⟩ := Sl.elem (b_f.up le3) hy
  obtain rfl := hr_y
  refine zaG he14 X X (hk := X) (hu := zp) (hz := zr) X<|zl X X (fun _ hC => (ze (j := 0) hC.sub hc13 X X X zN))<|u_neq X X X<|zaN ?_
  rintro w15 ⟨h16, s17⟩
  have st18 := st4.call0 s17
  refine O ?_
  refine zH rfl (fun c19 => ?_) (fun c19 => ?_)
  ·
   refine W.sr<|zJ X X<|Y<|zB<|zI<|zd<|zd<|zI<|zd<|zc Tryz.results21 ?_
   refine ⟨h16, _, rfl, st18.done, ?_⟩
   refine zw ?_
   have q := zdz hx hy (by simpa using c19)
   simp [q]
  refine zC<|zP<|O<|zo<|zk X X<|zaP X X t_om X<|zz X X<|Y ?_
  have l20 := le3.trans s17.le
  refine ⟨⟨k + 1, h16⟩, ⟨rfl, trivial⟩, ?_, ⟨l20, st18, ?_, ?_⟩, ?_⟩
  ·exact zav
  ·first | omega | (simp; omega)
  ·exact zdI he hx hy (by simpa using c19)
  show a.length - ((k + 1)) < a.length - k
  omega
 refine zaC<|zh<|zh<|zah<|O<|W.sr<|zJ X X<|Y<|zB<|zc Tryz.results21 ?_
 refine ⟨h2, _, rfl, st4.done, ?_⟩
 refine zw ?_
 have q := zeH he (by omega) (by omega)
 simp [q]
theorem c_postilref01_Same {h : Heap} {w : World} (hs : Sub h w) {a : Text} {a_v0 : Value} (a_f0 : Sl LChapter h a_v0 a.chapters) {b : Text} {b_v0 : Value} (b_f0 : Sl LChapter h b_v0 b.chapters) : Calls Tryz.prog 74 #[.agg #[a_v0], .agg #[b_v0]] w (Rets h w (fun _ _ res_ => res_ = .bool (decide (a = b)))) := by
 refine zS (n := 66) Tryz.func74 X X X<|have st0:=t_s0 hs;have a_f0_b:=a_f0.le;have b_f0_b:=b_f0.le;W.sr<|zG st0 (cs := [a_v0]) X X X<|fun b1 w2 h3 le4 hc5 st6=>zG st6 (cs := [b_v0]) X X X<|fun b7 w8 h9 le10 hc11 st12=>zJ X X<|Y<|zj<|W.sr<|U X zaF X zbi X X<|E (j := 0) st12.sub (hc5.up le10) X X X zby X<|have l13:=le4.trans le10;zaJ (a_f0.up l13) X zay X<|U X zaF X zbi X X<|E (j := 0) st12.sub hc11 X X X zby X<|zaJ (b_f0.up l13) X zay X<|zcF X X X<|Y ?_
 refine zH rfl (fun c14 => ?_) (fun c14 => ?_)
 ·
  refine W.sr<|zJ X X<|Y<|zB<|zd<|zc Tryz.results74 ?_
  refine ⟨h9, _, rfl, st12.done, ?_⟩
  refine zw ?_
  have q : a ≠ b := by
   rintro rfl
   simp_all
  simp [q]
 refine zC<|O<|zj<|W.sr<|zz X X<|Y<|zF ?_
 refine zat ([4, 5, 6, 7, 8] ++ t_rg 16 50) (G := Nat × Heap) (fun ⟨i, h15⟩ => [(5, .int .i64 (i : Int))]) (fun ⟨i, h15⟩ w' => Le h9 h15 ∧ St h w h15 w' [] ∧ (i ≤ a.chapters.length) ∧ (a.chapters.take i = b.chapters.take i)) (fun ⟨i, h15⟩ => a.chapters.length - i) ⟨0, h9⟩ ⟨rfl, trivial⟩ ⟨Le.refl _, st12, zaM, zaM⟩ ?_
 rintro ⟨i, h15⟩ _ w18 ⟨le16, st17, hi, he⟩
 refine zj<|W.sr<|zk X X<|U X zaF X zbi X X<|E (j := 0) st17.sub (hc5.up (le10.trans le16)) X X X zby X<|have l19:=l13.trans le16;zaJ (a_f0.up l19) X zay X<|zaV X X X<|Y ?_
 refine zH rfl (fun c20 => ?_) (fun c20 => ?_)
 ·
  refine zC<|O<|zj<|zF<|zj ?_
  obtain ⟨c, hc⟩ : ∃ y_, (a.chapters)[i]? = some y_ := t_ge (by omega)
  obtain ⟨b21, o22, _, he24, hc23, hr_c⟩ := Sl.elem (a_f0.up l19) hc
  obtain ⟨v25, rfl, f26⟩ := hr_c
  have f26_b := f26.le
  obtain ⟨d, hd⟩ : ∃ y_, (b.chapters)[i]? = some y_ := t_ge (by omega)
  obtain ⟨b27, o28, _, he30, hc29, hr_d⟩ := Sl.elem (b_f0.up l19) hd
  obtain ⟨v31, rfl, f32⟩ := hr_d
  have f32_b := f32.le
  refine zbh (er := ([], [], [], [], 0)) (dsts := [23, 24, 25, 26, 27, 28, 29, 30, 31, 32, 6, 7]) st17 Tryz.mixed<|zf 0 [] X t_kr t_kr X X (fun hD wD τD hL hS hO  => (zL X zaF X zbi X))<|zf 1 [0] X t_kr t_kr X X (fun hD wD τD hL hS hO _ _ => (ze (j := 0) (hL.sub hS) (hc5.up (le10.trans le16)) X X X zby))<|zf 2 [] X t_kr t_kr X X (fun hD wD τD hL hS hO  => (zdP X))<|zf 3 [1, 0] X t_kr t_kr X X (fun hD wD τD hL hS hO _ _ _ _ => (zao he24 X X (hk := X) (hu := zay) (hz := zbg)))<|zf 4 [0] X t_kr t_kr X X (fun hD wD τD hL hS hO _ _ => (zZ (hL.sub hS) hc23 X Tryz.isAgg152 zbg X))<|zf 5 [] X t_kr t_kr X X (fun hD wD τD hL hS hO  => (zL X zaF X zbi X))<|zf 6 [0] X t_kr t_kr X X (fun hD wD τD hL hS hO _ _ => (ze (j := 0) (hL.sub hS) (hc11.up le16) X X X zby))<|zf 7 [] X t_kr t_kr X X (fun hD wD τD hL hS hO  => (zdP X))<|zf 8 [1, 0] X t_kr t_kr X X (fun hD wD τD hL hS hO _ _ _ _ => (zao he30 X X (hk := X) (hu := zay) (hz := zbg)))<|zf 9 [0] X t_kr t_kr X X (fun hD wD τD hL hS hO _ _ => (zZ (hL.sub hS) hc29 X Tryz.isAgg152 zbg X))<|zhL zex X<|zhL zex X<|zbx<|zbx<|zbN X X X X X X ⟨t_kr, X, t_kr, X, t_kr, X, X, t_kr, (zbe X (zbe X zcl))⟩<|fun b33=>fun b34=>fun hE36 w37 _ le38 st39 _ _ _ _ _ _ _ _ _ _=>zM st39 (k := 0) X X X (za X (za f26.one zap)) zbg X X X<|fun w40 st41=> ?_
  obtain ⟨h42, le43, hb44, st46⟩ := st41.freeze (k := 0) rfl
  have hc45 := Cells.of hb44
  refine zt ⟨undef, rfl, _, _, le43, st46, ?_⟩
  intro hE48 w49 _ le50 st51 _ _ _ _ _ _ _ _ _ _ _ _ _ _ _ _ _ _ _ _
  refine zM st51 (k := 1) X X X (za X (za f32.one zap)) zbg X X X<|fun w52 st53=> ?_
  obtain ⟨h54, le55, hb56, st58⟩ := st53.freeze (k := 1) rfl
  have hc57 := Cells.of hb56
  refine zt ⟨undef, rfl, _, _, le55, st58, ?_⟩
  intro hE59 w60 _ le61 st62 _ _ _ _ _ _ _ _ _ _ _ _ _ _ _ _ _ _ _ _
  refine AllDeps.fin X<|O<|zj<|W.sr<|U X zal X zr X X<|E (j := 0) st62.sub (hc45.up ((le50.trans le55).trans le61)) X X X zN X<|U X zal X zr X X<|E (j := 0) st62.sub (hc57.up le61) X X X zN X<|zcF X X X<|zai X X ?_
  refine zaB (d := 38) rfl (fun g64 => ?_) (fun g64 => ?_)
  ·
   refine Z X X X X X<|Z X X X X X<|Z X X X X X<|Z X X X X X<|Z X X X X X<|Z X X X X X<|Z X X X X X<|zaf (v := (.bool _)) X X X<|Y ?_
   refine zad rfl (fun c65 => ?_) (fun c65 => ?_)
   ·
    refine W.sr<|zJ X X<|Y<|zB<|zd<|zI<|zd<|zd<|zI<|zd<|zc Tryz.results74 ?_
    refine ⟨hE59, _, rfl, st62.done, ?_⟩
    refine zw ?_
    have q : c ≠ d := by
     rintro rfl
     simp_all
    have q2 : a ≠ b := fun e => zdz hc hd q (by rw [e])
    simp [q2]
   cases c65
  refine M X X X<|U X zal X zbq X X<|M X X X<|E (j := 1) st62.sub (hc45.up ((le50.trans le55).trans le61)) X X X zbH X<|M X X X<|have l66:=(((le38.trans le43).trans le50).trans le55).trans le61;zaJ (f26.up l66) X zaH X<|M X X X<|U X zal X zbq X X<|M X X X<|E (j := 1) st62.sub (hc57.up le61) X X X zbH X<|M X X X<|zaJ (f32.up l66) X zaH X<|M X X X<|zcF X X X<|zX (v := (.bool _)) X X X<|Y ?_
  refine zH rfl (fun c67 => ?_) (fun c67 => ?_)
  ·
   refine W.sr<|zJ X X<|Y<|zB<|zd<|zI<|zd<|zd<|zI<|zd<|zc Tryz.results74 ?_
   refine ⟨hE59, _, rfl, st62.done, ?_⟩
   refine zw ?_
   have q : c ≠ d := by
    rintro rfl
    simp_all
   have q2 : a ≠ b := fun e => zdz hc hd q (by rw [e])
   simp [q2]
  refine zC<|O<|W.sr<|zz X X<|Y<|zF ?_
  refine zat ([4, 8] ++ t_rg 47 19) (G := Nat × Heap) (fun ⟨k, h68⟩ => [(8, .int .i64 (k : Int))]) (fun ⟨k, h68⟩ w' => Le hE59 h68 ∧ St h w h68 w' [[], []] ∧ (k ≤ c.lines.length) ∧ (c.lines.take k = d.lines.take k)) (fun ⟨k, h68⟩ => c.lines.length - k) ⟨0, hE59⟩ ⟨rfl, trivial⟩ ⟨Le.refl _, st62, zaM, zaM⟩ ?_
  rintro ⟨k, h68⟩ _ w71 ⟨le69, st70, hk, hk2⟩
  refine zj<|W.sr<|zk X X<|U X zal X zbq X X<|have l72:=((le50.trans le55).trans le61).trans le69;E (j := 1) st70.sub (hc45.up l72) X X X zbH X<|zaJ (f26.up (l66.trans le69)) X zaH X<|zaV X X X<|Y ?_
  refine zH rfl (fun c73 => ?_) (fun c73 => ?_)
  ·
   refine zC<|O<|zj<|zF<|zj<|zbj Tryz.mixed t_kr (Cls h68 _) (Cls.drew st70)<|zD X zal X zbq X X<|zl X X (fun _ hC => (ze (j := 1) hC.sub (hc45.up l72) X X X zbH))<|zbJ X X ?_
   obtain ⟨x, hx⟩ : ∃ y_, (c.lines)[k]? = some y_ := t_ge (by omega)
   obtain ⟨b74, o75, _, he77, hc76, hr_x⟩ := Sl.elem (f26.up (l66.trans le69)) hx
   obtain ⟨v78, rfl, f79⟩ := hr_x
   have f79_b := f79.le
   refine zaG he77 X X (hk := X) (hu := zaH) (hz := zcV) X<|zl X X (fun _ hC => (ze (j := 0) hC.sub hc76 X X X zdk))<|zD X zal X zbq X X<|zl X X (fun _ hC => (ze (j := 1) hC.sub (hc57.up (le61.trans le69)) X X X zbH))<|zbJ X X ?_
   obtain ⟨y, hy⟩ : ∃ y_, (d.lines)[k]? = some y_ := t_ge (by omega)
   obtain ⟨b80, o81, _, he83, hc82, hr_y⟩ := Sl.elem (f32.up (l66.trans le69)) hy
   obtain ⟨v84, rfl, f85⟩ := hr_y
   have f85_b := f85.le
   refine zaG he83 X X (hk := X) (hu := zaH) (hz := zcV) X<|zl X X (fun _ hC => (ze (j := 0) hC.sub hc82 X X X zdk))<|zbU X X (fun _ => zbc X Tryz.call32 X) (fun _ hC => Rets.quiet hC (zfZ hC.sub f79 f85))<|zhO X X<|zaN ?_
   rintro w86 ⟨h87, s88⟩
   have st89 := st70.call0 s88
   refine O ?_
   refine zad rfl (fun c90 => ?_) (fun c90 => ?_)
   ·
    refine W.sr<|zJ X X<|Y<|zB<|zI<|zd<|zd<|zI<|zI<|zd<|zd<|zI<|zd<|zc Tryz.results74 ?_
    refine ⟨h87, _, rfl, st89.done, ?_⟩
    refine zw ?_
    have q1 : c.lines ≠ d.lines := zdz hx hy (by simpa using c90)
    have q : c ≠ d := fun e => q1 (by rw [e])
    have q2 : a ≠ b := fun e => zdz hc hd q (by rw [e])
    simp [q2]
   refine zC<|zP<|O<|zo<|zk X X<|zaP X X t_om X<|zz X X<|Y ?_
   refine ⟨⟨k + 1, h87⟩, ⟨rfl, trivial⟩, ?_, ⟨(le69.trans s88.le), st89, ?_, ?_⟩, ?_⟩
   ·exact zav
   ·first | omega | (simp; omega)
   ·exact zdI hk2 hx hy (by simpa using c90)
   show c.lines.length - ((k + 1)) < c.lines.length - k
   omega
  refine zaC<|zh<|zh<|zah<|zP<|O<|zo<|zk X X<|zaP X X t_om X<|zz X X<|Y ?_
  have HCD : c = d := by
   have q := zeH hk2 (by omega) (by omega)
   rcases c with ⟨c1, c2⟩; rcases d with ⟨d1, d2⟩
   simp_all
  have l91 := (((((le16.trans le38).trans le43).trans le50).trans le55).trans le61).trans le69
  refine ⟨⟨i + 1, h68⟩, ⟨rfl, trivial⟩, ?_, ⟨l91, st70.take 0, ?_, ?_⟩, ?_⟩
  ·exact zav
  ·first | omega | (simp; omega)
  ·exact zdI he hc hd HCD
  show a.chapters.length - ((i + 1)) < a.chapters.length - i
  omega
 refine zaC<|zh<|zh<|zah<|O<|W.sr<|zJ X X<|Y<|zB<|zc Tryz.results74 ?_
 refine ⟨h15, _, rfl, st17.done, ?_⟩
 refine zw ?_
 have q := zeH he (by omega) (by omega)
 rcases a with ⟨a1⟩; rcases b with ⟨b1⟩
 simp_all
theorem zhG {h : Heap} {w : World} (hs : Sub h w) {a : Lexicon} {a_v0 : Value} (a_f0 : Sl LRule h a_v0 a.rules) {a_v1 : Value} (a_f1 : Sl LDecision h a_v1 a.decisions) {b : Lexicon} {b_v0 : Value} (b_f0 : Sl LRule h b_v0 b.rules) {b_v1 : Value} (b_f1 : Sl LDecision h b_v1 b.decisions) : Calls Tryz.prog 31 #[.agg #[a_v0, a_v1], .agg #[b_v0, b_v1]] w (Rets h w (fun _ _ res_ => res_ = .bool (decide (a = b)))) := by
 refine zS (n := 59) Tryz.func31 X X X<|have st0:=t_s0 hs;have a_f0_b:=a_f0.le;have a_f1_b:=a_f1.le;have b_f0_b:=b_f0.le;have b_f1_b:=b_f1.le;W.sr<|zG st0 (cs := [a_v0, a_v1]) X X X<|fun b1 w2 h3 le4 hc5 st6=>zG st6 (cs := [b_v0, b_v1]) X X X<|fun b7 w8 h9 le10 hc11 st12=>zJ X X<|Y<|zj<|W.sr<|U X zQ X zbP X X<|E (j := 0) st12.sub (hc5.up le10) X X X zcs X<|have l13:=le4.trans le10;zaJ (a_f0.up l13) X zaX X<|U X zQ X zbP X X<|E (j := 0) st12.sub hc11 X X X zcs X<|zaJ (b_f0.up l13) X zaX X<|zcF X X X<|zai X X ?_
 refine zaB (d := 14) rfl (fun g14 => ?_) (fun g14 => ?_)
 ·
  refine Z X X X X X<|Z X X X X X<|Z X X X X X<|Z X X X X X<|Z X X X X X<|Z X X X X X<|Z X X X X X<|zaf (v := (.bool _)) X X X<|Y ?_
  refine zad rfl (fun c15 => ?_) (fun c15 => ?_)
  ·
   refine W.sr<|zJ X X<|Y<|zB<|zd<|zc Tryz.results31 ?_
   refine ⟨h9, _, rfl, st12.done, ?_⟩
   refine zw ?_
   have q : a ≠ b := by
    rintro rfl
    simp_all
   simp [q]
  cases c15
 refine M X X X<|U X zQ X zaS X X<|M X X X<|E (j := 1) st12.sub (hc5.up le10) X X X zbr X<|M X X X<|zaJ (a_f1.up l13) X zU X<|M X X X<|U X zQ X zaS X X<|M X X X<|E (j := 1) st12.sub hc11 X X X zbr X<|M X X X<|zaJ (b_f1.up l13) X zU X<|M X X X<|zcF X X X<|zX (v := (.bool _)) X X X<|Y ?_
 refine zH rfl (fun c16 => ?_) (fun c16 => ?_)
 ·
  refine W.sr<|zJ X X<|Y<|zB<|zd<|zc Tryz.results31 ?_
  refine ⟨h9, _, rfl, st12.done, ?_⟩
  refine zw ?_
  have q : a ≠ b := by
   rintro rfl
   simp_all
  simp [q]
 refine zC<|O<|zj<|W.sr<|zz X X<|Y<|zF ?_
 refine zat ([4, 5] ++ t_rg 23 18) (G := Nat × Heap) (fun ⟨i, h17⟩ => [(5, .int .i64 (i : Int))]) (fun ⟨i, h17⟩ w' => Le h9 h17 ∧ St h w h17 w' [] ∧ (i ≤ a.rules.length) ∧ (a.rules.take i = b.rules.take i)) (fun ⟨i, h17⟩ => a.rules.length - i) ⟨0, h9⟩ ⟨rfl, trivial⟩ ⟨Le.refl _, st12, zaM, zaM⟩ ?_
 rintro ⟨i, h17⟩ _ w20 ⟨le18, st19, hi, he⟩
 refine zj<|W.sr<|zk X X<|U X zQ X zbP X X<|E (j := 0) st19.sub (hc5.up (le10.trans le18)) X X X zcs X<|have l21:=l13.trans le18;zaJ (a_f0.up l21) X zaX X<|zaV X X X<|Y ?_
 refine zH rfl (fun c22 => ?_) (fun c22 => ?_)
 ·
  refine zC<|O<|zj<|zF<|zj<|zbj Tryz.mixed t_kr (Cls h17 _) (Cls.drew st19)<|zD X zQ X zbP X X<|zl X X (fun _ hC => (ze (j := 0) hC.sub (hc5.up (le10.trans le18)) X X X zcs))<|zbJ X X ?_
  obtain ⟨r, hr⟩ : ∃ y_, (a.rules)[i]? = some y_ := t_ge (by omega)
  obtain ⟨b23, o24, _, he26, hc25, hr_r⟩ := Sl.elem (a_f0.up l21) hr
  obtain ⟨rfl, ls27, ls28⟩ := hr_r
  simp only [big] at ls27
  simp only [big] at ls28
  refine zaG he26 X X (hk := X) (hu := zaX) (hz := zcr) X<|zl X X (fun _ hC => (zZ hC.sub hc25 X zgK zcr X))<|zD X zQ X zbP X X<|zl X X (fun _ hC => (ze (j := 0) hC.sub (hc11.up le18) X X X zcs))<|zbJ X X ?_
  obtain ⟨r2, hr2⟩ : ∃ y_, (b.rules)[i]? = some y_ := t_ge (by omega)
  obtain ⟨b29, o30, _, he32, hc31, hr_r2⟩ := Sl.elem (b_f0.up l21) hr2
  obtain ⟨rfl, ls33, ls34⟩ := hr_r2
  simp only [big] at ls33
  simp only [big] at ls34
  refine zaG he32 X X (hk := X) (hu := zaX) (hz := zcr) X<|zl X X (fun _ hC => (zZ hC.sub hc31 X zgK zcr X))<|zl X X (fun _ _ => (ziz X X Tryz.eqGuardType68 (Tryz.eq_Rule r r2)))<|zaN ?_
  rintro w35 ⟨h36, s37⟩
  have st38 := st19.call0 s37
  refine O ?_
  refine zH rfl (fun c39 => ?_) (fun c39 => ?_)
  ·
   refine W.sr<|zJ X X<|Y<|zB<|zI<|zd<|zd<|zI<|zd<|zc Tryz.results31 ?_
   refine ⟨h36, _, rfl, st38.done, ?_⟩
   refine zw ?_
   have q : a ≠ b := fun e => zdz hr hr2 (by simpa using c39) (by rw [e])
   simp [q]
  refine zC<|zP<|O<|zo<|zk X X<|zaP X X t_om X<|zz X X<|Y ?_
  refine ⟨⟨i + 1, h36⟩, ⟨rfl, trivial⟩, ?_, ⟨(le18.trans s37.le), st38, ?_, ?_⟩, ?_⟩
  ·exact zav
  ·first | omega | (simp; omega)
  ·exact zdI he hr hr2 (by simpa using c39)
  show a.rules.length - ((i + 1)) < a.rules.length - i
  omega
 refine zaC<|zh<|zh<|zah<|O<|zj<|W.sr<|zz X X<|Y<|zF ?_
 refine zat ([4, 6] ++ t_rg 41 18) (G := Nat × Heap) (fun ⟨k, h40⟩ => [(6, .int .i64 (k : Int))]) (fun ⟨k, h40⟩ w' => Le h17 h40 ∧ St h w h40 w' [] ∧ (k ≤ a.decisions.length) ∧ (a.decisions.take k = b.decisions.take k)) (fun ⟨k, h40⟩ => a.decisions.length - k) ⟨0, h17⟩ ⟨rfl, trivial⟩ ⟨Le.refl _, st19, zaM, zaM⟩ ?_
 rintro ⟨k, h40⟩ _ w43 ⟨le41, st42, hk, hf⟩
 refine zj<|W.sr<|zk X X<|U X zQ X zaS X X<|E (j := 1) st42.sub (hc5.up ((le10.trans le18).trans le41)) X X X zbr X<|have l44:=l21.trans le41;zaJ (a_f1.up l44) X zU X<|zaV X X X<|Y ?_
 refine zH rfl (fun c45 => ?_) (fun c45 => ?_)
 ·
  refine zC<|O<|zj<|zF<|zj<|zbj Tryz.mixed t_kr (Cls h40 _) (Cls.drew st42)<|zD X zQ X zaS X X<|zl X X (fun _ hC => (ze (j := 1) hC.sub (hc5.up ((le10.trans le18).trans le41)) X X X zbr))<|zbJ X X ?_
  obtain ⟨d, hd⟩ : ∃ y_, (a.decisions)[k]? = some y_ := t_ge (by omega)
  obtain ⟨b46, o47, _, he49, hc48, hr_d⟩ := Sl.elem (a_f1.up l44) hd
  obtain ⟨rfl, lu50, ls51, ls52, lu53⟩ := hr_d
  simp only [big] at ls51
  simp only [big] at ls52
  refine zaG he49 X X (hk := X) (hu := zU) (hz := zK) X<|zl X X (fun _ hC => (zZ hC.sub hc48 X zaI zK X))<|zD X zQ X zaS X X<|zl X X (fun _ hC => (ze (j := 1) hC.sub (hc11.up (le18.trans le41)) X X X zbr))<|zbJ X X ?_
  obtain ⟨d2, hd2⟩ : ∃ y_, (b.decisions)[k]? = some y_ := t_ge (by omega)
  obtain ⟨b54, o55, _, he57, hc56, hr_d2⟩ := Sl.elem (b_f1.up l44) hd2
  obtain ⟨rfl, lu58, ls59, ls60, lu61⟩ := hr_d2
  simp only [big] at ls59
  simp only [big] at ls60
  refine zaG he57 X X (hk := X) (hu := zU) (hz := zK) X<|zl X X (fun _ hC => (zZ hC.sub hc56 X zaI zK X))<|zl X X (fun _ _ => (ziz X X zeS (Tryz.eq_Decision d d2)))<|zaN ?_
  rintro w62 ⟨h63, s64⟩
  have st65 := st42.call0 s64
  refine O ?_
  refine zH rfl (fun c66 => ?_) (fun c66 => ?_)
  ·
   refine W.sr<|zJ X X<|Y<|zB<|zI<|zd<|zd<|zI<|zd<|zc Tryz.results31 ?_
   refine ⟨h63, _, rfl, st65.done, ?_⟩
   refine zw ?_
   have q : a ≠ b := fun e => zdz hd hd2 (by simpa using c66) (by rw [e])
   simp [q]
  refine zC<|zP<|O<|zo<|zk X X<|zaP X X t_om X<|zz X X<|Y ?_
  refine ⟨⟨k + 1, h63⟩, ⟨rfl, trivial⟩, ?_, ⟨(le41.trans s64.le), st65, ?_, ?_⟩, ?_⟩
  ·exact zav
  ·first | omega | (simp; omega)
  ·exact zdI hf hd hd2 (by simpa using c66)
  show a.decisions.length - ((k + 1)) < a.decisions.length - k
  omega
 refine zaC<|zh<|zh<|zah<|O<|W.sr<|zJ X X<|Y<|zB<|zc Tryz.results31 ?_
 refine ⟨h40, _, rfl, st42.done, ?_⟩
 refine zw ?_
 have q1 := zeH he (by omega) (by omega)
 have q2 := zeH hf (by omega) (by omega)
 rcases a with ⟨a1, a2⟩; rcases b with ⟨b1, b2⟩
 simp_all
end Go.Pk
