/- A PART OF THE PROOF: contracts of functions, each walked once (much of it printed by a program of the author's own). -/
import Derived.Test.YtfpiiheehdedmaaGreatDoorT5
import Derived.Test.YtfpiiheehdedmaaGreatDoorT2
set_option linter.unusedSimpArgs false
set_option linter.unusedVariables false
set_option maxRecDepth 4000
namespace Go.Pk
open Go Go.RowKit Go.Proofs
theorem zcv {h : Heap} {w : World} (hs : Sub h w) (n : Int) (lo : Int) (hi : Int) : Calls Tryz.prog 153 #[.int .i64 n, .int .i64 lo, .int .i64 hi] w (Rets h w (fun _ _ res_ => res_ = .bool (inB n lo hi))) := by
 refine zP (n := 15) Tryz.func153 X X X<|have st0:=t_s0 hs;W.sr<|zF X X<|Y<|W.sr<|zh X X<|zh X X<|zhq X X X<|zS X X ?_
 refine zY (d := 10) rfl (fun g1 => ?_) (fun g1 => ?_)
 ·
  refine Z X X X<|zh X X<|Z X X X<|zh X X<|Z X X X<|zi X X (r_leq X X)<|zT (v := (.bool _)) X X X<|zF X X<|Y<|zw<|zb Tryz.results153 ?_
  refine ⟨h, _, rfl, st0.done, ?_⟩
  refine zx ?_
  simp [inB, *]
 refine M X X X X X<|M X X X X X<|M X X X X X<|zN (v := (.bool _)) X X X<|zF X X<|Y<|zw<|zb Tryz.results153 ?_
 refine ⟨h, _, rfl, st0.done, ?_⟩
 refine zx ?_
 simp [inB, *]
theorem zdz {h : Heap} {w : World} (hs : Sub h w) (n : Int) (lo : Int) (hi : Int) : Calls Tryz.prog 192 #[.int .i64 n, .int .i64 lo, .int .i64 hi] w (Rets h w (fun _ _ res_ => res_ = .bool (inB n lo hi))) := by
 refine zP (n := 15) Tryz.func192 X X X<|have st0:=t_s0 hs;W.sr<|zF X X<|Y<|W.sr<|zh X X<|zh X X<|zhq X X X<|zS X X ?_
 refine zY (d := 10) rfl (fun g1 => ?_) (fun g1 => ?_)
 ·
  refine Z X X X<|zh X X<|Z X X X<|zh X X<|Z X X X<|zi X X (r_leq X X)<|zT (v := (.bool _)) X X X<|zF X X<|Y<|zw<|zb Tryz.results192 ?_
  refine ⟨h, _, rfl, st0.done, ?_⟩
  refine zx ?_
  simp [inB, *]
 refine M X X X X X<|M X X X X X<|M X X X X X<|zN (v := (.bool _)) X X X<|zF X X<|Y<|zw<|zb Tryz.results192 ?_
 refine ⟨h, _, rfl, st0.done, ?_⟩
 refine zx ?_
 simp [inB, *]
theorem zeE {h : Heap} {w : World} (hs : Sub h w) (s : Str) (s_le : s.length ≤ 281474976710656) : Calls Tryz.prog 191 #[strV s] w (Rets h w (fun _ _ res_ => res_ = .bool (zdA s))) := by
 refine zP (n := 23) Tryz.func191 X X X<|have st0:=t_s0 hs;W.sr<|zF X X<|Y<|zj<|W.sr<|zq X X<|Y<|zG ?_
 refine zax (t_rg 2 18) (G := Nat × Heap) (fun ⟨k, h1⟩ => [(3, .int .i64 (k : Int))]) (fun ⟨k, h1⟩ w' => Le h h1 ∧ St h w h1 w' [] ∧ (k ≤ s.length) ∧ ((s.take k).all isL = true)) (fun ⟨k, h1⟩ => s.length - k) ⟨0, h⟩ ⟨rfl, trivial⟩ ⟨Le.refl _, st0, zaW, zaW⟩ ?_
 rintro ⟨k, h1⟩ _ w4 ⟨le2, st3, hk, ht⟩
 refine zj<|W.sr<|zh X X<|zcn X X<|zcx X zaB X<|zaX X X X<|Y ?_
 refine zC rfl (fun c5 => ?_) (fun c5 => ?_)
 ·
  refine zy<|O<|zj<|zG<|W.sr<|zcn X X<|zh X X ?_
  obtain ⟨y6, hy6⟩ : ∃ y_, (s)[k]? = some y_ := t_ge (by omega)
  refine zi X X (zih X X (hk := X) (hb := hy6) (hu := zaB))<|zaX X X X<|zS X X ?_
  refine zY (d := 14) rfl (fun g7 => ?_) (fun g7 => ?_)
  ·
   refine M X X X X X<|M X X X X X<|M X X X X X<|M X X X X X<|zT (v := (.bool _)) X X X<|Y ?_
   refine zae rfl (fun c8 => ?_) (fun c8 => ?_)
   ·
    refine W.sr<|zF X X<|Y<|zw<|zK<|zd<|zd<|zK<|zd<|zb Tryz.results191 ?_
    refine ⟨h1, _, rfl, st3.done, ?_⟩
    refine zx ?_
    have hn := zcG (p := isL) (by assumption) (by simp [isL]; omega)
    simp [zdA, zcH, hn]
   cases c8
  refine Z X X X<|zcn X X<|Z X X X<|zh X X<|Z X X X<|zi X X (zih X X (hk := X) (hb := hy6) (hu := zaB))<|Z X X X<|zdm X X X<|zN (v := (.bool _)) X X X<|Y ?_
  refine zC rfl (fun c9 => ?_) (fun c9 => ?_)
  ·
   refine W.sr<|zF X X<|Y<|zw<|zK<|zd<|zd<|zK<|zd<|zb Tryz.results191 ?_
   refine ⟨h1, _, rfl, st3.done, ?_⟩
   refine zx ?_
   have hn := zcG (p := isL) (by assumption) (by simp [isL]; omega)
   simp [zdA, zcH, hn]
  refine zy<|zO<|O<|zn<|zh X X<|zaM X X t_om X<|zq X X<|Y ?_
  refine ⟨⟨k + 1, h1⟩, ⟨rfl, trivial⟩, ?_, ⟨le2, st3, ?_, ?_⟩, ?_⟩
  ·exact zau
  ·first | omega | (simp; omega)
  ·exact zct ht (by assumption) (by simp [isL, *]; omega)
  show s.length - ((k + 1)) < s.length - k
  omega
 refine zaI<|zm<|zm<|zam<|O<|W.sr<|zcn X X<|zcx X zaB X<|ze st3 X X X zgm X (zcv st3.sub _ _ _)<|fun r10 w11 h12 le13 st14 q15=> ?_
 obtain rfl := q15
 refine zF X X<|Y<|zw<|zb Tryz.results191 ?_
 refine ⟨h12, _, rfl, st14.done, ?_⟩
 refine zx ?_
 have hn := zcX ht (by omega)
 simp [zdA, zcH, hn]
theorem zgE {h : Heap} {w : World} (hs : Sub h w) (s : Str) (s_le : s.length ≤ 281474976710656) (lo : Int) : Calls Tryz.prog 205 #[strV s, .int .i64 lo] w (Rets h w (fun _ _ res_ => res_ = .bool (zcH s lo))) := by
 refine zP (n := 26) Tryz.func205 X X X<|have st0:=t_s0 hs;W.sr<|zF X X<|Y<|zj<|W.sr<|zq X X<|Y<|zG ?_
 refine zax (t_rg 4 18) (G := Nat × Heap) (fun ⟨k, h1⟩ => [(5, .int .i64 (k : Int))]) (fun ⟨k, h1⟩ w' => Le h h1 ∧ St h w h1 w' [] ∧ (k ≤ s.length) ∧ ((s.take k).all isL = true)) (fun ⟨k, h1⟩ => s.length - k) ⟨0, h⟩ ⟨rfl, trivial⟩ ⟨Le.refl _, st0, zaW, zaW⟩ ?_
 rintro ⟨k, h1⟩ _ w4 ⟨le2, st3, hk, ht⟩
 refine zj<|W.sr<|zh X X<|zcn X X<|zcx X zaB X<|zaX X X X<|Y ?_
 refine zC rfl (fun c5 => ?_) (fun c5 => ?_)
 ·
  refine zy<|O<|zj<|zG<|W.sr<|zcn X X<|zh X X ?_
  obtain ⟨y6, hy6⟩ : ∃ y_, (s)[k]? = some y_ := t_ge (by omega)
  refine zi X X (zih X X (hk := X) (hb := hy6) (hu := zaB))<|zaX X X X<|zS X X ?_
  refine zY (d := 16) rfl (fun g7 => ?_) (fun g7 => ?_)
  ·
   refine M X X X X X<|M X X X X X<|M X X X X X<|M X X X X X<|zT (v := (.bool _)) X X X<|Y ?_
   refine zae rfl (fun c8 => ?_) (fun c8 => ?_)
   ·
    refine W.sr<|zF X X<|Y<|zw<|zK<|zd<|zd<|zK<|zd<|zb Tryz.results205 ?_
    refine ⟨h1, _, rfl, st3.done, ?_⟩
    refine zx ?_
    have hn := zcG (p := isL) (by assumption) (by simp [isL]; omega)
    simp [zdA, zcH, hn]
   cases c8
  refine Z X X X<|zcn X X<|Z X X X<|zh X X<|Z X X X<|zi X X (zih X X (hk := X) (hb := hy6) (hu := zaB))<|Z X X X<|zdm X X X<|zN (v := (.bool _)) X X X<|Y ?_
  refine zC rfl (fun c9 => ?_) (fun c9 => ?_)
  ·
   refine W.sr<|zF X X<|Y<|zw<|zK<|zd<|zd<|zK<|zd<|zb Tryz.results205 ?_
   refine ⟨h1, _, rfl, st3.done, ?_⟩
   refine zx ?_
   have hn := zcG (p := isL) (by assumption) (by simp [isL]; omega)
   simp [zdA, zcH, hn]
  refine zy<|zO<|O<|zn<|zh X X<|zaM X X t_om X<|zq X X<|Y ?_
  refine ⟨⟨k + 1, h1⟩, ⟨rfl, trivial⟩, ?_, ⟨le2, st3, ?_, ?_⟩, ?_⟩
  ·exact zau
  ·first | omega | (simp; omega)
  ·exact zct ht (by assumption) (by simp [isL, *]; omega)
  show s.length - ((k + 1)) < s.length - k
  omega
 refine zaI<|zm<|zm<|zam<|O<|W.sr<|zcn X X<|zcx X zaB X<|zh X X<|ze st3 X X X Tryz.call192 X (zdz st3.sub _ _ _)<|fun r10 w11 h12 le13 st14 q15=> ?_
 obtain rfl := q15
 refine zF X X<|Y<|zw<|zb Tryz.results205 ?_
 refine ⟨h12, _, rfl, st14.done, ?_⟩
 refine zx ?_
 have hn := zcX ht (by omega)
 simp [zdA, zcH, hn]
theorem c_postilref04_Rule {h : Heap} {w : World} (hs : Sub h w) {r : Rule} (r_l1 : r.cut.length ≤ 281474976710656) (r_l2 : r.put.length ≤ 281474976710656) : Calls Tryz.prog 158 #[.agg #[strV r.cut, strV r.put, .int .i64 r.least]] w (Rets h w (fun _ _ res_ => res_ = .bool (zgZ r))) := by
 refine zP (n := 23) Tryz.func158 X X X<|have st0:=t_s0 hs;W.sr<|zJ st0 (cs := [strV (r.cut), strV (r.put), .int .i64 (r.least)]) X X X<|fun b1 w2 h3 le4 hc5 st6=>zF X X<|Y<|W.sr<|E X zbG X zak X X<|U (j := 0) st6.sub hc5 X X X zaD X<|ze st6 X X X Tryz.call205 X (zgE st6.sub _ zbr _)<|fun r7 w8 h9 le10 st11 q12=> ?_
 obtain rfl := q12
 refine zS X X ?_
 refine zaw (d := 6) rfl (fun g13 => ?_) (fun g13 => ?_)
 ·
  refine Z X X X<|E X zbG X zak X X<|Z X X X<|U (j := 1) st11.sub (hc5.up le10) X X X zaD X<|Z X X X<|ze st11 X X X Tryz.call205 X (zgE st11.sub _ zbr _)<|fun r14 w15 h16 le17 st18 q19=> ?_
  obtain rfl := q19
  refine zT (v := (.bool _)) X X X<|zS X X ?_
  refine zaw (d := 11) rfl (fun g20 => ?_) (fun g20 => ?_)
  ·
   refine Z X X X<|E X zbG X zak X X<|Z X X X<|U (j := 0) st18.sub (hc5.up (le10.trans le17)) X X X zaD X<|Z X X X<|E X zbG X zak X X<|Z X X X<|U (j := 1) st18.sub (hc5.up (le10.trans le17)) X X X zaD X<|Z X X X<|zi X X (r_sneq X X)<|zT (v := (.bool _)) X X X<|zS X X ?_
   refine zY (d := 18) rfl (fun g21 => ?_) (fun g21 => ?_)
   ·
    refine Z X X X<|E X zbG X zl X X<|Z X X X<|U (j := 2) st18.sub (hc5.up (le10.trans le17)) X X X zz X<|Z X X X<|ze st18 X X X Tryz.call192 X (zdz st18.sub _ _ _)<|fun r22 w23 h24 le25 st26 q27=> ?_
    obtain rfl := q27
    refine zT (v := (.bool _)) X X X<|zF X X<|Y<|zw<|zb Tryz.results158 ?_
    refine ⟨h24, _, rfl, st26.done, ?_⟩
    refine zx ?_
    simp_all [zgZ]
   refine M X X X X X<|M X X X X X<|M X X X X X<|zN (v := (.bool _)) X X X<|zF X X<|Y<|zw<|zb Tryz.results158 ?_
   refine ⟨h16, _, rfl, st18.done, ?_⟩
   refine zx ?_
   simp_all [zgZ]
  refine M X X X X X<|M X X X X X<|M X X X X X<|M X X X X X<|M X X X X X<|zN (v := (.bool _)) X X X<|zS X X<|M X X X X X<|M X X X X X<|M X X X X X<|zN (v := (.bool _)) X X X<|zF X X<|Y<|zw<|zb Tryz.results158 ?_
  refine ⟨h16, _, rfl, st18.done, ?_⟩
  refine zx ?_
  simp_all [zgZ]
 refine M X X X X X<|M X X X X X<|M X X X X X<|zN (v := (.bool _)) X X X<|zS X X<|M X X X X X<|M X X X X X<|M X X X X X<|M X X X X X<|M X X X X X<|zN (v := (.bool _)) X X X<|zS X X<|M X X X X X<|M X X X X X<|M X X X X X<|zN (v := (.bool _)) X X X<|zF X X<|Y<|zw<|zb Tryz.results158 ?_
 refine ⟨h9, _, rfl, st11.done, ?_⟩
 refine zx ?_
 simp_all [zgZ]
theorem zeD {h : Heap} {w : World} (hs : Sub h w) {hd : Head} (hd_l1 : hd.stem.length ≤ 281474976710656) (hd_l2 : 0 ≤ hd.mark ∧ hd.mark ≤ 255) : Calls Tryz.prog 147 #[.agg #[strV hd.stem, .int .u8 hd.mark]] w (Rets h w (fun _ _ res_ => res_ = .bool (zea hd))) := by
 refine zP (n := 12) Tryz.func147 X X X<|have st0:=t_s0 hs;W.sr<|zJ st0 (cs := [strV (hd.stem), .int .u8 (hd.mark)]) X X X<|fun b1 w2 h3 le4 hc5 st6=>zF X X<|Y<|W.sr<|E X zbn X zak X X<|U (j := 0) st6.sub hc5 X X X zaD X<|ze st6 X X X Tryz.call191 X (zeE st6.sub _ zbr)<|fun r7 w8 h9 le10 st11 q12=> ?_
 obtain rfl := q12
 refine zS X X ?_
 refine zaw (d := 6) rfl (fun g13 => ?_) (fun g13 => ?_)
 ·
  refine Z X X X<|E X zbn X zbu X X<|Z X X X<|U (j := 1) st11.sub (hc5.up le10) X X X zbV X<|Z X X X ?_
  refine zi rfl rfl (zfW rfl rfl zbU (IntWalk.i64_in _ (by omega))) ?_
  refine Z X X X<|ze st11 X X X Tryz.call192 X (zdz st11.sub _ _ _)<|fun r14 w15 h16 le17 st18 q19=> ?_
  obtain rfl := q19
  refine zT (v := (.bool _)) X X X<|zF X X<|Y<|zw<|zb Tryz.results147 ?_
  refine ⟨h16, _, rfl, st18.done, ?_⟩
  refine zx ?_
  simp_all [zea]
 refine M X X X X X<|M X X X X X<|M X X X X X<|M X X X X X<|zN (v := (.bool _)) X X X<|zF X X<|Y<|zw<|zb Tryz.results147 ?_
 refine ⟨h9, _, rfl, st11.done, ?_⟩
 refine zx ?_
 simp_all [zea]
theorem c_postilref01_Before {h : Heap} {w : World} (hs : Sub h w) {a : Place} {b : Place} : Calls Tryz.prog 146 #[.agg #[.int .i64 a.chapter, .int .i64 a.line, .int .i64 a.word], .agg #[.int .i64 b.chapter, .int .i64 b.line, .int .i64 b.word]] w (Rets h w (fun _ _ res_ => res_ = .bool (zeh a b))) := by
 refine zP (n := 30) Tryz.func146 X X X<|have st0:=t_s0 hs;W.sr<|zJ st0 (cs := [.int .i64 (a.chapter), .int .i64 (a.line), .int .i64 (a.word)]) X X X<|fun b1 w2 h3 le4 hc5 st6=>zJ st6 (cs := [.int .i64 (b.chapter), .int .i64 (b.line), .int .i64 (b.word)]) X X X<|fun b7 w8 h9 le10 hc11 st12=>zF X X<|Y<|zj<|W.sr<|E X zao X zl X X<|U (j := 0) st12.sub (hc5.up le10) X X X zz X<|E X zao X zl X X<|U (j := 0) st12.sub hc11 X X X zz X<|zcf X X X<|Y ?_
 refine zC rfl (fun c13 => ?_) (fun c13 => ?_)
 ·
  refine W.sr<|E X zao X zl X X<|U (j := 0) st12.sub (hc5.up le10) X X X zz X<|E X zao X zl X X<|U (j := 0) st12.sub hc11 X X X zz X<|zaX X X X<|zF X X<|Y<|zw<|zd<|zb Tryz.results146 ?_
  refine ⟨h9, _, rfl, st12.done, ?_⟩
  refine zx ?_
  simp_all [zeh]
 refine zy<|O<|zj<|W.sr<|E X zao X zl X X<|U (j := 1) st12.sub (hc5.up le10) X X X zz X<|E X zao X zl X X<|U (j := 1) st12.sub hc11 X X X zz X<|zcf X X X<|Y ?_
 refine zC rfl (fun c14 => ?_) (fun c14 => ?_)
 ·
  refine W.sr<|E X zao X zl X X<|U (j := 1) st12.sub (hc5.up le10) X X X zz X<|E X zao X zl X X<|U (j := 1) st12.sub hc11 X X X zz X<|zaX X X X<|zF X X<|Y<|zw<|zd<|zb Tryz.results146 ?_
  refine ⟨h9, _, rfl, st12.done, ?_⟩
  refine zx ?_
  simp_all [zeh]
 refine zy<|O<|W.sr<|E X zao X zl X X<|U (j := 2) st12.sub (hc5.up le10) X X X zz X<|E X zao X zl X X<|U (j := 2) st12.sub hc11 X X X zz X<|zaX X X X<|zF X X<|Y<|zw<|zb Tryz.results146 ?_
 refine ⟨h9, _, rfl, st12.done, ?_⟩
 refine zx ?_
 simp_all [zeh]
end Go.Pk

namespace Go.Pk
open Go Go.RowKit Go.Proofs
theorem c_postilref01_Text {h : Heap} {w : World} (hs : Sub h w) {t : Text} {t_v0 : Value} (t_f0 : Sl LChapter h t_v0 t.chapters) : Calls Tryz.prog 190 #[.agg #[t_v0]] w (Rets h w (fun _ _ res_ => res_ = .bool (zbm t))) := by
 refine zP (n := 85) Tryz.func190 X X X<|have st0:=t_s0 hs;have t_f0_b:=t_f0.le;W.sr<|zJ st0 (cs := [t_v0]) X X X<|fun b1 w2 h3 le4 hc5 st6=>zF X X<|Y<|zj<|W.sr<|E X zaP X zbx X X<|U (j := 0) st6.sub hc5 X X X zbW X<|zaH (t_f0.up le4) X zaK X<|ze st6 X X X zgm X (zcv st6.sub _ _ _)<|fun r7 w8 h9 le10 st11 q12=> ?_
 obtain rfl := q12
 refine zbl X X<|Y ?_
 refine zae rfl (fun c13 => ?_) (fun c13 => ?_)
 ·
  refine W.sr<|zF X X<|Y<|zw<|zd<|zb zeF ?_
  refine ⟨h9, _, rfl, st11.done, ?_⟩
  refine zx ?_
  simp_all [zbm]
 refine zy<|O<|zj<|W.sr<|zq X X<|Y<|zG ?_
 refine zax (t_rg 2 6 ++ t_rg 13 72) (G := Nat × Heap) (fun ⟨i, h14⟩ => [(3, .int .i64 (i : Int))]) (fun ⟨i, h14⟩ w' => Le h9 h14 ∧ St h w h14 w' [] ∧ (i ≤ t.chapters.length) ∧ ((t.chapters.take i).all zbJ = true) ∧ (((t.chapters.take i).map (·.id)).Nodup)) (fun ⟨i, h14⟩ => t.chapters.length - i) ⟨0, h9⟩ ⟨rfl, trivial⟩ ⟨Le.refl _, st11, zaW, zaW, zaW⟩ ?_
 rintro ⟨i, h14⟩ _ w17 ⟨le15, st16, hi, hA, hN⟩
 refine zj<|W.sr<|zh X X<|E X zaP X zbx X X<|U (j := 0) st16.sub (hc5.up (le10.trans le15)) X X X zbW X<|have l18:=(le4.trans le10).trans le15;zaH (t_f0.up l18) X zaK X<|zaX X X X<|Y ?_
 refine zC rfl (fun c19 => ?_) (fun c19 => ?_)
 ·
  refine zy<|O<|zj<|zG<|W.sr<|E X zaP X zbx X X<|U (j := 0) st16.sub (hc5.up (le10.trans le15)) X X X zbW X<|zh X X ?_
  obtain ⟨c, hc⟩ : ∃ y_, (t.chapters)[i]? = some y_ := t_ge (by omega)
  obtain ⟨b20, o21, _, he23, hc22, hr_c⟩ := Sl.elem (t_f0.up l18) hc
  obtain ⟨v24, rfl, f25⟩ := hr_c
  have f25_b := f25.le
  refine zU he23 X X (hk := X) (hu := zaK) (hz := zbA) X<|zr st16.sub hc22 X Tryz.isAgg152 zbA X X<|zQ st16 Tryz.zeroValue152 X X<|fun b26 w27 st28=>zI st28 (k := 0) X X X (za X (za f25.one zan)) zbA X X X<|fun w29 st30=> ?_
  obtain ⟨h31, le32, hb33, st35⟩ := st30.freeze (k := 0) rfl
  have hc34 := Cells.of hb33
  refine Y<|zj<|W.sr<|E X zaJ X zl X X<|U (j := 0) st35.sub hc34 X X X zz X<|ze st35 X X X zgm X (zcv st35.sub _ _ _)<|fun r36 w37 h38 le39 st40 q41=> ?_
  obtain rfl := q41
  refine zbl X X<|zS X X ?_
  refine zaw (d := 29) rfl (fun g42 => ?_) (fun g42 => ?_)
  ·
   refine M X X X X X<|M X X X X X<|M X X X X X<|M X X X X X<|M X X X X X<|zT (v := (.bool _)) X X X<|Y ?_
   refine zae rfl (fun c43 => ?_) (fun c43 => ?_)
   ·
    refine W.sr<|zF X X<|Y<|zw<|zd<|zK<|zd<|zd<|zK<|zd<|zb zeF ?_
    refine ⟨h38, _, rfl, st40.done, ?_⟩
    refine zx ?_
    have q0 : zbJ c = false := by simp_all [zbJ]
    have q := zcG (p := zbJ) hc q0
    simp [zbm, q]
   cases c43
  refine Z X X X<|E X zaJ X zbH X X<|Z X X X<|U (j := 1) st40.sub (hc34.up le39) X X X zcm X<|Z X X X<|zaH (f25.up (le32.trans le39)) X zaO X<|Z X X X<|ze st40 X X X zgm X (zcv st40.sub _ _ _)<|fun r44 w45 h46 le47 st48 q49=> ?_
  obtain rfl := q49
  refine Z X X X<|zbl X X<|zN (v := (.bool _)) X X X<|Y ?_
  refine zae rfl (fun c50 => ?_) (fun c50 => ?_)
  ·
   refine W.sr<|zF X X<|Y<|zw<|zd<|zK<|zd<|zd<|zK<|zd<|zb zeF ?_
   refine ⟨h46, _, rfl, st48.done, ?_⟩
   refine zx ?_
   have q0 : zbJ c = false := by simp_all [zbJ]
   have q := zcG (p := zbJ) hc q0
   simp [zbm, q]
  refine zy<|O<|zj<|W.sr<|zq X X<|Y<|zG ?_
  refine zax ([2, 5] ++ t_rg 36 14) (G := Nat × Heap) (fun ⟨k1, h51⟩ => [(5, .int .i64 (k1 : Int))]) (fun ⟨k1, h51⟩ w' => Le h46 h51 ∧ St h w h51 w' [[]] ∧ (k1 ≤ i) ∧ (∀ j c2, j < k1 → t.chapters[j]? = some c2 → c2.id ≠ c.id)) (fun ⟨k1, h51⟩ => i - k1) ⟨0, h46⟩ ⟨rfl, trivial⟩ ⟨Le.refl _, st48, zaW, (by intro j _ hj; omega)⟩ ?_
  rintro ⟨k1, h51⟩ _ w54 ⟨le52, st53, hk1, hd⟩
  refine zj<|W.sr<|zh X X<|zh X X<|zaX X X X<|Y ?_
  refine zC rfl (fun c55 => ?_) (fun c55 => ?_)
  ·
   refine zy<|O<|zj<|zG<|zj<|zbX Tryz.mixed t_kr (Cls h51 _) (Cls.drew st53)<|zZ X zaP X zbx X X<|have l56:=((((le10.trans le15).trans le32).trans le39).trans le47).trans le52;zH X X (fun _ hC => (zf (j := 0) hC.sub (hc5.up l56) X X X zbW))<|zde X X ?_
   obtain ⟨cc, hcc⟩ : ∃ y_, (t.chapters)[k1]? = some y_ := t_ge (by omega)
   have l61 := (((l18.trans le32).trans le39).trans le47).trans le52
   obtain ⟨b57, o58, _, he60, hc59, hr_cc⟩ := Sl.elem (t_f0.up l61) hcc
   obtain ⟨v62, rfl, f63⟩ := hr_cc
   have f63_b := f63.le
   refine zbZ he60 X X (hk := X) (hu := zaK) (hz := zbA) X<|zZ X zaJ X zl X X<|zH X X (fun _ hC => (zf (j := 0) hC.sub hc59 X X X zz))<|zZ X zaJ X zl X X<|zH X X (fun _ hC => (zf (j := 0) hC.sub (hc34.up ((le39.trans le47).trans le52)) X X X zz))<|u_eql X X X<|zbC ?_
   rintro w64 ⟨h65, s66⟩
   have st67 := st53.call0 s66
   refine O ?_
   refine zC rfl (fun c68 => ?_) (fun c68 => ?_)
   ·
    refine W.sr<|zF X X<|Y<|zw<|zK<|zd<|zd<|zK<|zd<|zK<|zd<|zd<|zK<|zd<|zb zeF ?_
    refine ⟨h65, _, rfl, st67.done, ?_⟩
    refine zx ?_
    have q := ziH (f := (·.id)) hcc hc (by omega) (by assumption)
    simp [zbm, q]
   refine zy<|zO<|O<|zn<|zh X X<|zaM X X t_om X<|zq X X<|Y ?_
   refine ⟨⟨k1 + 1, h65⟩, ⟨rfl, trivial⟩, ?_, ⟨(le52.trans s66.le), st67, ?_, ?_⟩, ?_⟩
   ·exact zau
   ·first | omega | (simp; omega)
   ·intro j c2 h1 h2
    rcases Nat.lt_or_ge j k1 with h3 | h3
    ·exact hd j c2 h3 h2
    ·obtain rfl : j = k1 := by omega
     rw [h2] at hcc; cases hcc; assumption
   show i - ((k1 + 1)) < i - k1
   omega
  refine zaI<|zm<|zm<|zam<|O<|W.sr<|zq X X<|Y<|zG ?_
  refine zax ([2, 6, 7] ++ t_rg 50 35) (G := Nat × Heap) (fun ⟨k2, h69⟩ => [(6, .int .i64 (k2 : Int))]) (fun ⟨k2, h69⟩ w' => Le h51 h69 ∧ St h w h69 w' [[]] ∧ (k2 ≤ c.lines.length) ∧ ((c.lines.take k2).all zgs = true)) (fun ⟨k2, h69⟩ => c.lines.length - k2) ⟨0, h51⟩ ⟨rfl, trivial⟩ ⟨Le.refl _, st53, zaW, zaW⟩ ?_
  rintro ⟨k2, h69⟩ _ w72 ⟨le70, st71, hk2, hl⟩
  refine zj<|W.sr<|zh X X<|E X zaJ X zbH X X<|have l73:=((le39.trans le47).trans le52).trans le70;U (j := 1) st71.sub (hc34.up l73) X X X zcm X<|have l74:=(((le32.trans le39).trans le47).trans le52).trans le70;zaH (f25.up l74) X zaO X<|zaX X X X<|Y ?_
  refine zC rfl (fun c75 => ?_) (fun c75 => ?_)
  ·
   refine zy<|O<|zj<|zG<|zj<|W.sr<|E X zaJ X zbH X X<|U (j := 1) st71.sub (hc34.up l73) X X X zcm X<|zh X X ?_
   obtain ⟨ln, hln⟩ : ∃ y_, (c.lines)[k2]? = some y_ := t_ge (by omega)
   obtain ⟨b76, o77, _, he79, hc78, hr_ln⟩ := Sl.elem (f25.up l74) hln
   obtain ⟨v80, rfl, f81⟩ := hr_ln
   have f81_b := f81.le
   refine zU he79 X X (hk := X) (hu := zaO) (hz := zdK) X<|U (j := 0) st71.sub hc78 X X X zee X<|zaH f81 X zV X<|ze st71 X X X zgm X (zcv st71.sub _ _ _)<|fun r82 w83 h84 le85 st86 q87=> ?_
   obtain rfl := q87
   refine zbl X X<|Y ?_
   refine zae rfl (fun c88 => ?_) (fun c88 => ?_)
   ·
    refine W.sr<|zF X X<|Y<|zw<|zd<|zK<|zd<|zd<|zK<|zK<|zd<|zd<|zK<|zd<|zb zeF ?_
    refine ⟨h84, _, rfl, st86.done, ?_⟩
    refine zx ?_
    have q1 : zgs ln = false := by simp_all [zgs]
    have q2 := zcG (p := zgs) hln q1
    have q0 : zbJ c = false := by simp [zbJ, q2]
    have q := zcG (p := zbJ) hc q0
    simp [zbm, q]
   refine zy<|O<|W.sr<|zq X X<|Y<|zG ?_
   refine zax ([2, 7] ++ t_rg 65 20) (G := Nat × Heap) (fun ⟨k3, h89⟩ => [(7, .int .i64 (k3 : Int))]) (fun ⟨k3, h89⟩ w' => Le h84 h89 ∧ St h w h89 w' [[]] ∧ (k3 ≤ ln.length) ∧ ((ln.take k3).all zdA = true)) (fun ⟨k3, h89⟩ => ln.length - k3) ⟨0, h84⟩ ⟨rfl, trivial⟩ ⟨Le.refl _, st86, zaW, zaW⟩ ?_
   rintro ⟨k3, h89⟩ _ w92 ⟨le90, st91, hk3, hw⟩
   refine zj<|W.sr<|zh X X<|E X zaJ X zbH X X<|U (j := 1) st91.sub (hc34.up ((l73.trans le85).trans le90)) X X X zcm X<|zh X X<|zU he79 X X (hk := X) (hu := zaO) (hz := zdK) X<|U (j := 0) st91.sub (hc78.up (le85.trans le90)) X X X zee X<|zaH (f81.up (le85.trans le90)) X zV X<|zaX X X X<|Y ?_
   refine zC rfl (fun c93 => ?_) (fun c93 => ?_)
   ·
    refine zy<|O<|zj<|zG<|W.sr<|E X zaJ X zbH X X<|U (j := 1) st91.sub (hc34.up ((l73.trans le85).trans le90)) X X X zcm X<|zh X X<|zU he79 X X (hk := X) (hu := zaO) (hz := zdK) X<|U (j := 0) st91.sub (hc78.up (le85.trans le90)) X X X zee X<|zh X X ?_
    obtain ⟨y94, hy94⟩ : ∃ y_, (ln)[k3]? = some y_ := t_ge (by omega)
    obtain ⟨b95, o96, _, he98, hc97, hr_y94⟩ := Sl.elem (f81.up (le85.trans le90)) hy94
    obtain ⟨rfl, ls99⟩ := hr_y94
    simp only [big] at ls99
    refine zU he98 X X (hk := X) (hu := zV) (hz := zak) X<|U (j := 0) st91.sub hc97 X X X zaD X<|ze st91 X X X Tryz.call191 X (zeE st91.sub _ zbr)<|fun r100 w101 h102 le103 st104 q105=> ?_
    obtain rfl := q105
    refine zbl X X<|Y ?_
    refine zae rfl (fun c106 => ?_) (fun c106 => ?_)
    ·
     refine W.sr<|zF X X<|Y<|zw<|zK<|zd<|zd<|zK<|zK<|zd<|zd<|zK<|zK<|zd<|zd<|zK<|zd<|zb zeF ?_
     refine ⟨h102, _, rfl, st104.done, ?_⟩
     refine zx ?_
     have q3 := zcG (p := zdA) (by assumption) (by simpa using c106)
     have q1 : zgs ln = false := by simp [zgs, q3]
     have q2 := zcG (p := zgs) hln q1
     have q0 : zbJ c = false := by simp [zbJ, q2]
     have q := zcG (p := zbJ) hc q0
     simp [zbm, q]
    refine zy<|zO<|O<|zn<|zh X X<|zaM X X t_om X<|zq X X<|Y ?_
    refine ⟨⟨k3 + 1, h102⟩, ⟨rfl, trivial⟩, ?_, ⟨(le90.trans le103), st104, ?_, ?_⟩, ?_⟩
    ·exact zau
    ·first | omega | (simp; omega)
    ·exact zct hw (by assumption) (by simp_all)
    show ln.length - ((k3 + 1)) < ln.length - k3
    omega
   refine zaI<|zm<|zm<|zam<|zO<|O<|zn<|zh X X<|zaM X X t_om X<|zq X X<|Y ?_
   refine ⟨⟨k2 + 1, h89⟩, ⟨rfl, trivial⟩, ?_, ⟨((le70.trans le85).trans le90), st91, ?_, ?_⟩, ?_⟩
   ·exact zau
   ·first | omega | (simp; omega)
   ·exact zct hl hln (by simp_all [zgs, zcX hw (by omega)])
   show c.lines.length - ((k2 + 1)) < c.lines.length - k2
   omega
  refine zaI<|zm<|zm<|zam<|zO<|O<|zn<|zh X X<|zaM X X t_om X<|zq X X<|Y ?_
  have HCH : zbJ c = true := by
   have q := zcX hl (by omega)
   simp_all [zbJ]
  have l107 := ((((le15.trans le32).trans le39).trans le47).trans le52).trans le70
  refine ⟨⟨i + 1, h69⟩, ⟨rfl, trivial⟩, ?_, ⟨l107, st71.take 0, ?_, ?_, ?_⟩, ?_⟩
  ·exact zau
  ·first | omega | (simp; omega)
  ·exact zct hA hc HCH
  ·exact nodup_take_succ hN hc (by omega) (fun j c2 h1 h2 => hd j c2 (by omega) h2)
  show t.chapters.length - ((i + 1)) < t.chapters.length - i
  omega
 refine zaI<|zm<|zm<|zam<|O<|W.sr<|zF X X<|Y<|zw<|zb zeF ?_
 refine ⟨h14, _, rfl, st16.done, ?_⟩
 refine zx ?_
 have q := zcX hA (by omega)
 have q2 : t.chapters.take i = t.chapters := List.take_of_length_le (by omega)
 rw [q2] at hN
 simp_all [zbm]
theorem c_postilref01_Check {h : Heap} {w : World} (hs : Sub h w) {t : Text} {t_v0 : Value} (t_f0 : Sl LChapter h t_v0 t.chapters) : Calls Tryz.prog 145 #[.agg #[t_v0]] w (Rets h w (fun _ _ res_ => res_ = .int .i64 ((if zbm t then 0 else 10)))) := by
 refine zP (n := 6) Tryz.func145 X X X<|have st0:=t_s0 hs;have t_f0_b:=t_f0.le;W.sr<|zJ st0 (cs := [t_v0]) X X X<|fun b1 w2 h3 le4 hc5 st6=>zq X X<|Y<|zj<|W.sr<|zr st6.sub hc5 X zbk zaA X X<|ze st6 X X X Tryz.call190 X (c_postilref01_Text st6.sub (t := t) (t_f0.up le4))<|fun r7 w8 h9 le10 st11 q12=> ?_
 obtain rfl := q12
 refine zbl X X<|Y ?_
 refine zae rfl (fun c13 => ?_) (fun c13 => ?_)
 ·
  refine W.sr<|zq X X<|Y<|zw<|zd<|zb Tryz.results145 ?_
  refine ⟨h9, _, rfl, st11.done, ?_⟩
  refine zah ?_
  simp_all
 refine zy<|O<|W.sr<|zq X X<|Y<|zw<|zb Tryz.results145 ?_
 refine ⟨h9, _, rfl, st11.done, ?_⟩
 refine zah ?_
 simp_all
theorem c_postilref01_line {h : Heap} {w : World} (hs : Sub h w) {t : Text} {t_v0 : Value} (t_f0 : Sl LChapter h t_v0 t.chapters) {p : Place} : Calls Tryz.prog 152 #[.agg #[t_v0], .agg #[.int .i64 p.chapter, .int .i64 p.line, .int .i64 p.word]] w (Rets h w (fun h' _ res_ => ∃ u0, res_ = .tuple #[u0, .bool ((zcT t p).isSome)] ∧ Sl LStr h' u0 ((zcT t p).getD []))) := by
 refine zP (n := 40) Tryz.func152 X X X<|have st0:=t_s0 hs;have t_f0_b:=t_f0.le;W.sr<|zJ st0 (cs := [t_v0]) X X X<|fun b1 w2 h3 le4 hc5 st6=>zJ st6 (cs := [.int .i64 (p.chapter), .int .i64 (p.line), .int .i64 (p.word)]) X X X<|fun b7 w8 h9 le10 hc11 st12=>zcM X X<|zF X X<|Y<|zj<|zj<|zbX Tryz.mixed t_kr (Cls h9 _) (Cls.drew st12)<|zZ X zao X zl X X<|zH X X (fun _ hC => (zf (j := 0) hC.sub hc11 X X X zz))<|zZ X zaP X zbx X X<|zH X X (fun _ hC => (zf (j := 0) hC.sub (hc5.up le10) X X X zbW))<|have l13:=le4.trans le10;u_len (t_f0.up l13) X zaK X<|u_sub X X t_om X<|zcW X X (fun _ => zaV X zgm X) (fun _ hC => Rets.quiet hC (zcv hC.sub _ _ _))<|u_not X X<|zhr X X ?_
 refine zgc (d := 14) rfl (fun g14 => ?_) (fun g14 => ?_)
 ·
  refine zL X X X X X<|zL X X X X X<|zL X X X X X<|zL X X X X X<|zL X X X X X<|zL X X X X X<|zL X X X X X<|zL X X X X X<|zL X X X X X<|zL X X X X X<|zL X X X X X<|zL X X X X X<|zL X X X X X<|zfP (v := (.bool _)) X X X<|zbC ?_
  rintro w15 ⟨h16, s17⟩
  have st18 := st12.call0 s17
  refine O ?_
  refine zae rfl (fun c19 => ?_) (fun c19 => ?_)
  ·
   refine W.sr<|zcM X X<|zF X X<|Y<|zw<|zd<|zbb Tryz.results152 ?_
   refine ⟨h16, _, rfl, st18.done, ?_⟩
   refine ⟨_, tup2 rfl (zx ?_), Sl.to (Sl.nil _ _) ?_⟩
   all_goals have q := g14
   all_goals simp [inB] at q
   ·have q2 : zcT t p = none := line_none1 (by omega)
    simp [q2]
   have q2 : zcT t p = none := line_none1 (by omega)
   simp [q2]
  cases c19
 refine zD X X X<|zZ X zao X zl X X<|zD X X X<|zH X X (fun _ hC => (zf (j := 1) hC.sub hc11 X X X zz))<|zD X X X<|zZ X zaP X zbx X X<|zD X X X<|zH X X (fun _ hC => (zf (j := 0) hC.sub (hc5.up le10) X X X zbW))<|zD X X X<|zZ X zao X zl X X<|zD X X X<|zH X X (fun _ hC => (zf (j := 0) hC.sub hc11 X X X zz))<|zD X X X ?_
 have q1 : 0 ≤ p.chapter ∧ p.chapter < t.chapters.length := by
  have q := g14
  simp [inB] at q
  omega
 obtain ⟨c, hc⟩ : ∃ y_, (t.chapters)[p.chapter.toNat]? = some y_ := t_ge (by omega)
 obtain ⟨b20, o21, _, he23, hc22, hr_c⟩ := Sl.elem (t_f0.up l13) hc
 obtain ⟨v24, rfl, f25⟩ := hr_c
 have f25_b := f25.le
 refine zH rfl rfl (fun _ _ => (zav he23 rfl rfl (hk := (show _ = ((p.chapter.toNat : Nat) : Int) by omega)) (hu := zaK) (hz := zbA))) ?_
 refine zD X X X<|zZ X zaJ X zbH X X<|zD X X X<|zH X X (fun _ hC => (zf (j := 1) hC.sub hc22 X X X zcm))<|zD X X X<|u_len f25 X zaO X<|zD X X X<|u_sub X X t_om X<|zD X X X<|zcW X X (fun _ => zaV X zgm X) (fun _ hC => Rets.quiet hC (zcv hC.sub _ _ _))<|zD X X X<|u_not X X<|zef (v := (.bool _)) X X X<|zbC ?_
 rintro w26 ⟨h27, s28⟩
 have st29 := st12.call0 s28
 refine O ?_
 refine zae rfl (fun c30 => ?_) (fun c30 => ?_)
 ·
  refine W.sr<|zcM X X<|zF X X<|Y<|zw<|zd<|zbb Tryz.results152 ?_
  refine ⟨h27, _, rfl, st29.done, ?_⟩
  refine ⟨_, tup2 rfl (zx ?_), Sl.to (Sl.nil _ _) ?_⟩
  all_goals have q := c30
  all_goals simp [inB] at q
  ·have q2 : zcT t p = none := line_none2 hc (by omega)
   simp [q2]
  have q2 : zcT t p = none := line_none2 hc (by omega)
  simp [q2]
 refine zy<|O<|zj ?_
 have q2 : 0 ≤ p.line ∧ p.line < c.lines.length := by
  have q := c30
  simp [inB] at q
  omega
 refine zbX Tryz.mixed t_kr (Cls h27 _) (Cls.drew st29)<|zZ X zaP X zbx X X<|zH X X (fun _ hC => (zf (j := 0) hC.sub (hc5.up (le10.trans s28.le)) X X X zbW))<|zZ X zao X zl X X<|zH X X (fun _ hC => (zf (j := 0) hC.sub (hc11.up s28.le) X X X zz)) ?_
 refine zH rfl rfl (fun _ _ => (zav he23 rfl rfl (hk := (show _ = ((p.chapter.toNat : Nat) : Int) by omega)) (hu := zaK) (hz := zbA))) ?_
 refine zZ X zaJ X zbH X X<|zH X X (fun _ hC => (zf (j := 1) hC.sub (hc22.up s28.le) X X X zcm))<|zZ X zao X zl X X<|zH X X (fun _ hC => (zf (j := 1) hC.sub (hc11.up s28.le) X X X zz)) ?_
 obtain ⟨ln, hln⟩ : ∃ y_, (c.lines)[p.line.toNat]? = some y_ := t_ge (by omega)
 obtain ⟨b31, o32, _, he34, hc33, hr_ln⟩ := Sl.elem (f25.up s28.le) hln
 obtain ⟨v35, rfl, f36⟩ := hr_ln
 have f36_b := f36.le
 refine zH rfl rfl (fun _ _ => (zav he34 rfl rfl (hk := (show _ = ((p.line.toNat : Nat) : Int) by omega)) (hu := zaO) (hz := zdK))) ?_
 refine zH X X (fun _ hC => (zf (j := 0) hC.sub hc33 X X X zee))<|u_assign (v := v35) X X<|u_asB X X<|zbC ?_
 rintro w37 ⟨h38, s39⟩
 have st40 := st29.call0 s39
 refine O<|zw<|zbb Tryz.results152 ?_
 refine ⟨h38, _, rfl, st40.done, ?_⟩
 refine ⟨_, tup2 rfl (zx ?_), Sl.to (f36.up s39.le) ?_⟩
 ·simp [line_some hc q1.1 hln q2.1]
 simp [line_some hc q1.1 hln q2.1]
theorem zhv {h : Heap} {w : World} (hs : Sub h w) {t : Text} {t_v0 : Value} (t_f0 : Sl LChapter h t_v0 t.chapters) {p : Place} : Calls Tryz.prog 113 #[.agg #[t_v0], .agg #[.int .i64 p.chapter, .int .i64 p.line, .int .i64 p.word]] w (Rets h w (fun _ _ res_ => res_ = .bool (zbE t p))) := by
 refine zP (n := 22) Tryz.func113 X X X<|have st0:=t_s0 hs;have t_f0_b:=t_f0.le;W.sr<|zJ st0 (cs := [t_v0]) X X X<|fun b1 w2 h3 le4 hc5 st6=>zJ st6 (cs := [.int .i64 (p.chapter), .int .i64 (p.line), .int .i64 (p.word)]) X X X<|fun b7 w8 h9 le10 hc11 st12=>zF X X<|Y<|W.sr<|zr st12.sub (hc5.up le10) X zbk zaA X X<|zr st12.sub hc11 X zaQ zW X X<|have l13:=le4.trans le10;ze st12 X X X Tryz.call152 X (c_postilref01_line st12.sub (t := t) (t_f0.up l13) (p := p))<|fun r14 w15 h16 le17 st18 q19=> ?_
 obtain ⟨v20, rfl, f21⟩ := q19
 have f21_b := f21.le
 refine zbY X X<|zA (v := v20) X X X<|zA (v := (.bool _)) X X X<|zaf (v := v20) X X<|zF X X<|Y<|W.sr<|zS X X<|zS X X ?_
 refine zaw (d := 14) rfl (fun g22 => ?_) (fun g22 => ?_)
 ·
  refine Z X X X<|E X zao X zl X X<|Z X X X<|U (j := 2) st18.sub (hc11.up le17) X X X zz X<|Z X X X<|zR (v := v20) X X<|Z X X X<|zaH f21 X zV X<|Z X X X<|ziC X X t_om X<|Z X X X<|ze st18 X X X zgm X (zcv st18.sub _ _ _)<|fun r23 w24 h25 le26 st27 q28=> ?_
  obtain rfl := q28
  refine zT (v := (.bool _)) X X X<|zF X X<|Y<|zw<|zb Tryz.results113 ?_
  refine ⟨h25, _, rfl, st27.done, ?_⟩
  refine zx ?_
  simp_all [place_eq]
 refine M X X X X X<|M X X X X X<|M X X X X X<|M X X X X X<|M X X X X X<|M X X X X X<|zN (v := (.bool _)) X X X<|zF X X<|Y<|zw<|zb Tryz.results113 ?_
 refine ⟨h16, _, rfl, st18.done, ?_⟩
 refine zx ?_
 simp_all [place_eq]
theorem zjj {h : Heap} {w : World} (hs : Sub h w) {t : Text} {t_v0 : Value} (t_f0 : Sl LChapter h t_v0 t.chapters) {d : Decision} (d_l2 : 0 ≤ d.kind ∧ d.kind ≤ 255) (d_l3 : d.form.length ≤ 281474976710656) (d_l7 : d.to.stem.length ≤ 281474976710656) (d_l8 : 0 ≤ d.to.mark ∧ d.to.mark ≤ 255) : Calls Tryz.prog 159 #[.agg #[t_v0], .agg #[.int .i64 d.number, .int .u8 d.kind, strV d.form, .int .i64 d.at_.chapter, .int .i64 d.at_.line, .int .i64 d.at_.word, strV d.to.stem, .int .u8 d.to.mark, .int .i64 d.of_]] w (Rets h w (fun _ _ res_ => res_ = .bool (zaj t d))) := by
 refine zP (n := 102) Tryz.func159 X X X<|have st0:=t_s0 hs;have t_f0_b:=t_f0.le;W.sr<|zJ st0 (cs := [t_v0]) X X X<|fun b1 w2 h3 le4 hc5 st6=>zJ st6 (cs := [.int .i64 (d.number), .int .u8 (d.kind), strV (d.form), .int .i64 (d.at_.chapter), .int .i64 (d.at_.line), .int .i64 (d.at_.word), strV (d.to.stem), .int .u8 (d.to.mark), .int .i64 (d.of_)]) X X X<|fun b7 w8 h9 le10 hc11 st12=>zF X X<|Y<|zj<|W.sr<|E X zo X zl X X<|U (j := 0) st12.sub hc11 X X X zz X<|ze st12 X X X Tryz.call192 X (zdz st12.sub _ _ _)<|fun r13 w14 h15 le16 st17 q18=> ?_
 obtain rfl := q18
 refine zbl X X<|Y ?_
 refine zae rfl (fun c19 => ?_) (fun c19 => ?_)
 ·
  refine W.sr<|zF X X<|Y<|zw<|zd<|zb zcc ?_
  refine ⟨h15, _, rfl, st17.done, ?_⟩
  refine zx ?_
  simp_all [zaj]
 have qn : 1 ≤ d.number ∧ d.number ≤ 999 := by
  have q := c19
  simp [inB] at q
  omega
 refine zy<|O<|W.sr<|zi X X (zbq (cs := [.int .i64 0, .int .i64 0, .int .i64 0]) t_kr)<|zi X X (zbq (cs := [strV [], .int .u8 0]) t_kr)<|zr st17.sub (hc5.up (le10.trans le16)) X zbk zaA X X<|E X zo X zW X X<|zal (j := 3) st17.sub (hc11.up le16) (us := [.int .i64 (d.at_.chapter), .int .i64 (d.at_.line), .int .i64 (d.at_.word)]) X X zaQ zW X X X<|have l20:=(le4.trans le10).trans le16;ze st17 X X X Tryz.call113 X (zhv st17.sub (t := t) (t_f0.up l20) (p := d.at_))<|fun r21 w22 h23 le24 st25 q26=> ?_
 obtain rfl := q26
 refine zQ st25 Tryz.zeroValue70 X X<|fun b27 w28 st29=>zQ st29 zeN X X<|fun b30 w31 st32=>zI st32 (k := 0) X X X (za X (za X (za X zan))) zW X X X<|fun w33 st34=> ?_
 obtain ⟨h35, le36, hb37, st39⟩ := st34.freeze (k := 0) rfl
 have hc38 := Cells.of hb37
 refine zI st39 (k := 1) X X X (za X (za X zan)) zai X X X<|fun w40 st41=> ?_
 obtain ⟨h42, le43, hb44, st46⟩ := st41.freeze (k := 1) rfl
 have hc45 := Cells.of hb44
 refine zF X X<|Y<|zj<|W.sr<|E X zo X zbu X X<|have l47:=((le16.trans le24).trans le36).trans le43;U (j := 1) st46.sub (hc11.up l47) X X X zbV X<|Y<|zG<|W.sr<|zdd X X X<|zF X X<|Y ?_
 refine zC rfl (fun c48 => ?_) (fun c48 => ?_)
 ·
  refine W.sr<|E X zo X zak X X<|U (j := 2) st46.sub (hc11.up l47) X X X zaD X<|ze st46 X X X Tryz.call191 X (zeE st46.sub _ zbr)<|fun r49 w50 h51 le52 st53 q54=> ?_
  obtain rfl := q54
  refine zS X X ?_
  refine zaw (d := 25) rfl (fun g55 => ?_) (fun g55 => ?_)
  ·
   refine Z X X X<|E X zo X zW X X<|Z X X X<|zal (j := 3) st53.sub (hc11.up (l47.trans le52)) (us := [.int .i64 (d.at_.chapter), .int .i64 (d.at_.line), .int .i64 (d.at_.word)]) X X zaQ zW X X X<|Z X X X<|zr st53.sub (hc38.up (le43.trans le52)) X zaQ zW X X<|Z X X X<|zi X X (zgU X X Tryz.eqGuardType70 (Tryz.eq_Place d.at_ zdE))<|zT (v := (.bool _)) X X X<|zS X X ?_
   refine zY (d := 31) rfl (fun g56 => ?_) (fun g56 => ?_)
   ·
    refine Z X X X<|E X zo X zai X X<|Z X X X<|zal (j := 6) st53.sub (hc11.up (l47.trans le52)) (us := [strV (d.to.stem), .int .u8 (d.to.mark)]) X X zbQ zai X X X<|Z X X X<|ze st53 X X X Tryz.call147 X (zeD st53.sub (hd := d.to) zbr t_u8)<|fun r57 w58 h59 le60 st61 q62=> ?_
    obtain rfl := q62
    refine zT (v := (.bool _)) X X X<|zS X X ?_
    refine zaw (d := 36) rfl (fun g63 => ?_) (fun g63 => ?_)
    ·
     refine Z X X X<|E X zo X zl X X<|Z X X X<|U (j := 8) st61.sub (hc11.up ((l47.trans le52).trans le60)) X X X zz X<|Z X X X<|zdd X X X<|zT (v := (.bool _)) X X X<|zF X X<|Y<|zw<|zK<|zd<|zb zcc ?_
     refine ⟨h59, _, rfl, st61.done, ?_⟩
     refine zx ?_
     simp_all [zaj]
    refine M X X X X X<|M X X X X X<|M X X X X X<|zN (v := (.bool _)) X X X<|zF X X<|Y<|zw<|zK<|zd<|zb zcc ?_
    refine ⟨h59, _, rfl, st61.done, ?_⟩
    refine zx ?_
    simp_all [zaj]
   refine M X X X X X<|M X X X X X<|M X X X X X<|zN (v := (.bool _)) X X X<|zS X X<|M X X X X X<|M X X X X X<|M X X X X X<|zN (v := (.bool _)) X X X<|zF X X<|Y<|zw<|zK<|zd<|zb zcc ?_
   refine ⟨h51, _, rfl, st53.done, ?_⟩
   refine zx ?_
   simp_all [zaj]
  refine M X X X X X<|M X X X X X<|M X X X X X<|M X X X X X<|zN (v := (.bool _)) X X X<|zS X X<|M X X X X X<|M X X X X X<|M X X X X X<|zN (v := (.bool _)) X X X<|zS X X<|M X X X X X<|M X X X X X<|M X X X X X<|zN (v := (.bool _)) X X X<|zF X X<|Y<|zw<|zK<|zd<|zb zcc ?_
  refine ⟨h51, _, rfl, st53.done, ?_⟩
  refine zx ?_
  simp_all [zaj]
 refine W.sr<|zdd X X X<|zF X X<|Y ?_
 refine zC rfl (fun c64 => ?_) (fun c64 => ?_)
 ·
  refine W.sr<|E X zo X zak X X<|U (j := 2) st46.sub (hc11.up l47) X X X zaD X<|ze st46 X X X Tryz.call191 X (zeE st46.sub _ zbr)<|fun r65 w66 h67 le68 st69 q70=> ?_
  obtain rfl := q70
  refine zS X X ?_
  refine zaw (d := 46) rfl (fun g71 => ?_) (fun g71 => ?_)
  ·
   refine Z X X X<|zS X X<|zT (v := (.bool _)) X X X<|zS X X ?_
   refine zaw (d := 49) rfl (fun g72 => ?_) (fun g72 => ?_)
   ·
    refine Z X X X<|E X zo X zai X X<|Z X X X<|zal (j := 6) st69.sub (hc11.up (l47.trans le68)) (us := [strV (d.to.stem), .int .u8 (d.to.mark)]) X X zbQ zai X X X<|Z X X X<|ze st69 X X X Tryz.call147 X (zeD st69.sub (hd := d.to) zbr t_u8)<|fun r73 w74 h75 le76 st77 q78=> ?_
    obtain rfl := q78
    refine zT (v := (.bool _)) X X X<|zS X X ?_
    refine zaw (d := 54) rfl (fun g79 => ?_) (fun g79 => ?_)
    ·
     refine Z X X X<|E X zo X zl X X<|Z X X X<|U (j := 8) st77.sub (hc11.up ((l47.trans le68).trans le76)) X X X zz X<|Z X X X<|zdd X X X<|zT (v := (.bool _)) X X X<|zF X X<|Y<|zw<|zK<|zd<|zb zcc ?_
     refine ⟨h75, _, rfl, st77.done, ?_⟩
     refine zx ?_
     simp_all [zaj]
    refine M X X X X X<|M X X X X X<|M X X X X X<|zN (v := (.bool _)) X X X<|zF X X<|Y<|zw<|zK<|zd<|zb zcc ?_
    refine ⟨h75, _, rfl, st77.done, ?_⟩
    refine zx ?_
    simp_all [zaj]
   refine M X X X X X<|M X X X X X<|M X X X X X<|zN (v := (.bool _)) X X X<|zS X X<|M X X X X X<|M X X X X X<|M X X X X X<|zN (v := (.bool _)) X X X<|zF X X<|Y<|zw<|zK<|zd<|zb zcc ?_
   refine ⟨h67, _, rfl, st69.done, ?_⟩
   refine zx ?_
   simp_all [zaj]
  refine M X X X X X<|zN (v := (.bool _)) X X X<|zS X X<|M X X X X X<|M X X X X X<|M X X X X X<|zN (v := (.bool _)) X X X<|zS X X<|M X X X X X<|M X X X X X<|M X X X X X<|zN (v := (.bool _)) X X X<|zF X X<|Y<|zw<|zK<|zd<|zb zcc ?_
  refine ⟨h67, _, rfl, st69.done, ?_⟩
  refine zx ?_
  simp_all [zaj]
 refine W.sr<|zdd X X X<|zF X X<|Y ?_
 refine zC rfl (fun c80 => ?_) (fun c80 => ?_)
 ·
  refine W.sr<|E X zo X zak X X<|U (j := 2) st46.sub (hc11.up l47) X X X zaD X<|v_seql X X X<|zS X X ?_
  refine zY (d := 64) rfl (fun g81 => ?_) (fun g81 => ?_)
  ·
   refine Z X X X<|zS X X<|zT (v := (.bool _)) X X X<|zS X X ?_
   refine zaw (d := 67) rfl (fun g82 => ?_) (fun g82 => ?_)
   ·
    refine Z X X X<|E X zo X zai X X<|Z X X X<|zal (j := 6) st46.sub (hc11.up l47) (us := [strV (d.to.stem), .int .u8 (d.to.mark)]) X X zbQ zai X X X<|Z X X X<|ze st46 X X X Tryz.call147 X (zeD st46.sub (hd := d.to) zbr t_u8)<|fun r83 w84 h85 le86 st87 q88=> ?_
    obtain rfl := q88
    refine zT (v := (.bool _)) X X X<|zS X X ?_
    refine zaw (d := 72) rfl (fun g89 => ?_) (fun g89 => ?_)
    ·
     refine Z X X X<|E X zo X zl X X<|Z X X X<|U (j := 8) st87.sub (hc11.up (l47.trans le86)) X X X zz X<|Z X X X<|zdd X X X<|zT (v := (.bool _)) X X X<|zF X X<|Y<|zw<|zK<|zd<|zb zcc ?_
     refine ⟨h85, _, rfl, st87.done, ?_⟩
     refine zx ?_
     simp_all [zaj]
    refine M X X X X X<|M X X X X X<|M X X X X X<|zN (v := (.bool _)) X X X<|zF X X<|Y<|zw<|zK<|zd<|zb zcc ?_
    refine ⟨h85, _, rfl, st87.done, ?_⟩
    refine zx ?_
    simp_all [zaj]
   refine M X X X X X<|M X X X X X<|M X X X X X<|zN (v := (.bool _)) X X X<|zS X X<|M X X X X X<|M X X X X X<|M X X X X X<|zN (v := (.bool _)) X X X<|zF X X<|Y<|zw<|zK<|zd<|zb zcc ?_
   refine ⟨h42, _, rfl, st46.done, ?_⟩
   refine zx ?_
   simp_all [zaj]
  refine M X X X X X<|zN (v := (.bool _)) X X X<|zS X X<|M X X X X X<|M X X X X X<|M X X X X X<|zN (v := (.bool _)) X X X<|zS X X<|M X X X X X<|M X X X X X<|M X X X X X<|zN (v := (.bool _)) X X X<|zF X X<|Y<|zw<|zK<|zd<|zb zcc ?_
  refine ⟨h42, _, rfl, st46.done, ?_⟩
  refine zx ?_
  simp_all [zaj]
 refine W.sr<|zdd X X X<|zF X X<|Y ?_
 refine zC rfl (fun c90 => ?_) (fun c90 => ?_)
 ·
  refine W.sr<|E X zo X zak X X<|U (j := 2) st46.sub (hc11.up l47) X X X zaD X<|v_seql X X X<|zS X X ?_
  refine zY (d := 82) rfl (fun g91 => ?_) (fun g91 => ?_)
  ·
   refine Z X X X<|E X zo X zW X X<|Z X X X<|zal (j := 3) st46.sub (hc11.up l47) (us := [.int .i64 (d.at_.chapter), .int .i64 (d.at_.line), .int .i64 (d.at_.word)]) X X zaQ zW X X X<|Z X X X<|zr st46.sub (hc38.up le43) X zaQ zW X X<|Z X X X<|zi X X (zgU X X Tryz.eqGuardType70 (Tryz.eq_Place d.at_ zdE))<|zT (v := (.bool _)) X X X<|zS X X ?_
   refine zY (d := 88) rfl (fun g92 => ?_) (fun g92 => ?_)
   ·
    refine Z X X X<|E X zo X zai X X<|Z X X X<|zal (j := 6) st46.sub (hc11.up l47) (us := [strV (d.to.stem), .int .u8 (d.to.mark)]) X X zbQ zai X X X<|Z X X X<|zr st46.sub hc45 X zbQ zai X X<|Z X X X<|zi X X (zgU X X Tryz.eqGuardType72 (Tryz.eq_Head d.to zdq))<|zT (v := (.bool _)) X X X<|zS X X ?_
    refine zY (d := 94) rfl (fun g93 => ?_) (fun g93 => ?_)
    ·
     refine Z X X X<|E X zo X zl X X<|Z X X X<|U (j := 8) st46.sub (hc11.up l47) X X X zz X<|Z X X X<|E X zo X zl X X<|Z X X X<|U (j := 0) st46.sub (hc11.up l47) X X X zz X<|Z X X X<|ziC X X t_om X<|Z X X X<|ze st46 X X X Tryz.call192 X (zdz st46.sub _ _ _)<|fun r94 w95 h96 le97 st98 q99=> ?_
     obtain rfl := q99
     refine zT (v := (.bool _)) X X X<|zF X X<|Y<|zw<|zK<|zd<|zb zcc ?_
     refine ⟨h96, _, rfl, st98.done, ?_⟩
     refine zx ?_
     simp_all [zaj]
    refine M X X X X X<|M X X X X X<|M X X X X X<|M X X X X X<|M X X X X X<|M X X X X X<|zN (v := (.bool _)) X X X<|zF X X<|Y<|zw<|zK<|zd<|zb zcc ?_
    refine ⟨h42, _, rfl, st46.done, ?_⟩
    refine zx ?_
    simp_all [zaj]
   refine M X X X X X<|M X X X X X<|M X X X X X<|M X X X X X<|zN (v := (.bool _)) X X X<|zS X X<|M X X X X X<|M X X X X X<|M X X X X X<|M X X X X X<|M X X X X X<|M X X X X X<|zN (v := (.bool _)) X X X<|zF X X<|Y<|zw<|zK<|zd<|zb zcc ?_
   refine ⟨h42, _, rfl, st46.done, ?_⟩
   refine zx ?_
   simp_all [zaj]
  refine M X X X X X<|M X X X X X<|M X X X X X<|M X X X X X<|zN (v := (.bool _)) X X X<|zS X X<|M X X X X X<|M X X X X X<|M X X X X X<|M X X X X X<|zN (v := (.bool _)) X X X<|zS X X<|M X X X X X<|M X X X X X<|M X X X X X<|M X X X X X<|M X X X X X<|M X X X X X<|zN (v := (.bool _)) X X X<|zF X X<|Y<|zw<|zK<|zd<|zb zcc ?_
  refine ⟨h42, _, rfl, st46.done, ?_⟩
  refine zx ?_
  simp_all [zaj]
 refine zy<|zO<|O<|W.sr<|zF X X<|Y<|zw<|zb zcc ?_
 refine ⟨h42, _, rfl, st46.done, ?_⟩
 refine zx ?_
 simp_all [zaj]
theorem c_postilref04_Lexicon {h : Heap} {w : World} (hs : Sub h w) {t : Text} {t_v0 : Value} (t_f0 : Sl LChapter h t_v0 t.chapters) {x : Lexicon} {x_v0 : Value} (x_f0 : Sl LRule h x_v0 x.rules) {x_v1 : Value} (x_f1 : Sl LDecision h x_v1 x.decisions) : Calls Tryz.prog 116 #[.agg #[t_v0], .agg #[x_v0, x_v1]] w (Rets h w (fun _ _ res_ => res_ = .bool (zcB t x))) := by
 refine zP (n := 65) Tryz.func116 X X X<|have st0:=t_s0 hs;have t_f0_b:=t_f0.le;have x_f0_b:=x_f0.le;have x_f1_b:=x_f1.le;W.sr<|zJ st0 (cs := [t_v0]) X X X<|fun b1 w2 h3 le4 hc5 st6=>zJ st6 (cs := [x_v0, x_v1]) X X X<|fun b7 w8 h9 le10 hc11 st12=>zF X X<|Y<|zj<|W.sr<|E X zag X zcq X X<|U (j := 0) st12.sub hc11 X X X zcZ X<|have l13:=le4.trans le10;zaH (x_f0.up l13) X zbd X<|zdm X X X<|zS X X ?_
 refine zY (d := 12) rfl (fun g14 => ?_) (fun g14 => ?_)
 ·
  refine M X X X X X<|M X X X X X<|M X X X X X<|M X X X X X<|zT (v := (.bool _)) X X X<|Y ?_
  refine zae rfl (fun c15 => ?_) (fun c15 => ?_)
  ·
   refine W.sr<|zF X X<|Y<|zw<|zd<|zb zfz ?_
   refine ⟨h9, _, rfl, st12.done, ?_⟩
   refine zx ?_
   have q := g14
   simp [zcB]
   intros
   omega
  cases c15
 refine Z X X X<|E X zag X zbN X X<|Z X X X<|U (j := 1) st12.sub hc11 X X X zcr X<|Z X X X<|zaH (x_f1.up l13) X zaG X<|Z X X X<|zdm X X X<|zN (v := (.bool _)) X X X<|Y ?_
 refine zC rfl (fun c16 => ?_) (fun c16 => ?_)
 ·
  refine W.sr<|zF X X<|Y<|zw<|zd<|zb zfz ?_
  refine ⟨h9, _, rfl, st12.done, ?_⟩
  refine zx ?_
  have q := c16
  simp [zcB]
  intros
  omega
 refine zy<|O<|zj<|W.sr<|zq X X<|Y<|zG ?_
 refine zax ([4, 5] ++ t_rg 18 14) (G := Nat × Heap) (fun ⟨i, h17⟩ => [(5, .int .i64 (i : Int))]) (fun ⟨i, h17⟩ w' => Le h9 h17 ∧ St h w h17 w' [] ∧ (i ≤ x.rules.length) ∧ ((x.rules.take i).all zgZ = true)) (fun ⟨i, h17⟩ => x.rules.length - i) ⟨0, h9⟩ ⟨rfl, trivial⟩ ⟨Le.refl _, st12, zaW, zaW⟩ ?_
 rintro ⟨i, h17⟩ _ w20 ⟨le18, st19, hi, hR⟩
 refine zj<|W.sr<|zh X X<|E X zag X zcq X X<|U (j := 0) st19.sub (hc11.up le18) X X X zcZ X<|have l21:=l13.trans le18;zaH (x_f0.up l21) X zbd X<|zaX X X X<|Y ?_
 refine zC rfl (fun c22 => ?_) (fun c22 => ?_)
 ·
  refine zy<|O<|zj<|zG<|W.sr<|E X zag X zcq X X<|U (j := 0) st19.sub (hc11.up le18) X X X zcZ X<|zh X X ?_
  obtain ⟨r, hr⟩ : ∃ y_, (x.rules)[i]? = some y_ := t_ge (by omega)
  obtain ⟨b23, o24, _, he26, hc25, hr_r⟩ := Sl.elem (x_f0.up l21) hr
  obtain ⟨rfl, ls27, ls28⟩ := hr_r
  simp only [big] at ls27
  simp only [big] at ls28
  refine zU he26 X X (hk := X) (hu := zbd) (hz := zcV) X<|zr st19.sub hc25 X Tryz.isAgg68 zcV X X<|ze st19 X X X Tryz.call158 X (c_postilref04_Rule st19.sub (r := r) zbr zbr)<|fun r29 w30 h31 le32 st33 q34=> ?_
  obtain rfl := q34
  refine zbl X X<|Y ?_
  refine zae rfl (fun c35 => ?_) (fun c35 => ?_)
  ·
   refine W.sr<|zF X X<|Y<|zw<|zK<|zd<|zd<|zK<|zd<|zb zfz ?_
   refine ⟨h31, _, rfl, st33.done, ?_⟩
   refine zx ?_
   have q := zcG (p := zgZ) hr (by simpa using c35)
   simp [zcB, q]
  refine zy<|zO<|O<|zn<|zh X X<|zaM X X t_om X<|zq X X<|Y ?_
  refine ⟨⟨i + 1, h31⟩, ⟨rfl, trivial⟩, ?_, ⟨(le18.trans le32), st33, ?_, ?_⟩, ?_⟩
  ·exact zau
  ·first | omega | (simp; omega)
  ·exact zct hR hr (by simpa using c35)
  show x.rules.length - ((i + 1)) < x.rules.length - i
  omega
 refine zaI<|zm<|zm<|zam<|O<|zj<|W.sr<|zq X X<|Y<|zG ?_
 refine zax ([4, 6, 7] ++ t_rg 32 33) (G := Nat × Heap) (fun ⟨i, h36⟩ => [(6, .int .i64 (i : Int))]) (fun ⟨i, h36⟩ w' => Le h17 h36 ∧ St h w h36 w' [] ∧ (i ≤ x.decisions.length) ∧ ((x.decisions.take i).all (zaj t) = true) ∧ (((x.decisions.take i).map (·.number)).Nodup)) (fun ⟨i, h36⟩ => x.decisions.length - i) ⟨0, h17⟩ ⟨rfl, trivial⟩ ⟨Le.refl _, st19, zaW, zaW, zaW⟩ ?_
 rintro ⟨i, h36⟩ _ w39 ⟨le37, st38, hi, hD, hN⟩
 refine zj<|W.sr<|zh X X<|E X zag X zbN X X<|U (j := 1) st38.sub (hc11.up (le18.trans le37)) X X X zcr X<|have l40:=l21.trans le37;zaH (x_f1.up l40) X zaG X<|zaX X X X<|Y ?_
 refine zC rfl (fun c41 => ?_) (fun c41 => ?_)
 ·
  refine zy<|O<|zj<|zG<|zj<|zj<|zbX Tryz.mixed t_kr (Cls h36 _) (Cls.drew st38)<|zH X X (fun _ hC => (zat hC.sub (hc5.up ((le10.trans le18).trans le37)) X zbk zaA X))<|zZ X zag X zbN X X<|zH X X (fun _ hC => (zf (j := 1) hC.sub (hc11.up (le18.trans le37)) X X X zcr))<|zde X X ?_
  obtain ⟨d, hd⟩ : ∃ y_, (x.decisions)[i]? = some y_ := t_ge (by omega)
  obtain ⟨b42, o43, _, he45, hc44, hr_d⟩ := Sl.elem (x_f1.up l40) hd
  obtain ⟨rfl, lu46, ls47, ls48, lu49⟩ := hr_d
  simp only [big] at ls47
  simp only [big] at ls48
  refine zbZ he45 X X (hk := X) (hu := zaG) (hz := zX) X<|zH X X (fun _ hC => (zat hC.sub hc44 X zaY zX X))<|zcW X X (fun _ => zaV X Tryz.call159 X) (fun _ hC => Rets.quiet hC (zjj hC.sub (t := t) (t_f0.up l40) (d := d) t_u8 zbr zbr t_u8))<|u_not X X<|zbC ?_
  rintro w50 ⟨h51, s52⟩
  have st53 := st38.call0 s52
  refine O ?_
  refine zae rfl (fun c54 => ?_) (fun c54 => ?_)
  ·
   refine W.sr<|zF X X<|Y<|zw<|zd<|zK<|zd<|zd<|zK<|zd<|zb zfz ?_
   refine ⟨h51, _, rfl, st53.done, ?_⟩
   refine zx ?_
   have q := zcG (p := zaj t) hd (by simpa using c54)
   simp [zcB, q]
  refine zy<|O<|W.sr<|zq X X<|Y<|zG ?_
  refine zax ([4, 7] ++ t_rg 47 18) (G := Nat × Heap) (fun ⟨k, h55⟩ => [(7, .int .i64 (k : Int))]) (fun ⟨k, h55⟩ w' => Le h51 h55 ∧ St h w h55 w' [] ∧ (k ≤ i) ∧ (∀ j c2, j < k → x.decisions[j]? = some c2 → c2.number ≠ d.number)) (fun ⟨k, h55⟩ => i - k) ⟨0, h51⟩ ⟨rfl, trivial⟩ ⟨Le.refl _, st53, zaW, (by intro j _ hj; omega)⟩ ?_
  rintro ⟨k, h55⟩ _ w58 ⟨le56, st57, hk, hq⟩
  refine zj<|W.sr<|zh X X<|zh X X<|zaX X X X<|Y ?_
  refine zC rfl (fun c59 => ?_) (fun c59 => ?_)
  ·
   refine zy<|O<|zj<|zG<|zj<|zbX Tryz.mixed t_kr (Cls h55 _) (Cls.drew st57)<|zZ X zag X zbN X X<|have l60:=((le18.trans le37).trans s52.le).trans le56;zH X X (fun _ hC => (zf (j := 1) hC.sub (hc11.up l60) X X X zcr))<|zde X X ?_
   obtain ⟨e, he⟩ : ∃ y_, (x.decisions)[k]? = some y_ := t_ge (by omega)
   have l65 := (l40.trans s52.le).trans le56
   obtain ⟨b61, o62, _, he64, hc63, hr_e⟩ := Sl.elem (x_f1.up l65) he
   obtain ⟨rfl, lu66, ls67, ls68, lu69⟩ := hr_e
   simp only [big] at ls67
   simp only [big] at ls68
   refine zbZ he64 X X (hk := X) (hu := zaG) (hz := zX) X<|zZ X zo X zl X X<|zH X X (fun _ hC => (zf (j := 0) hC.sub hc63 X X X zz))<|zZ X zag X zbN X X<|zH X X (fun _ hC => (zf (j := 1) hC.sub (hc11.up l60) X X X zcr))<|zde X X<|zbZ he45 X X (hk := X) (hu := zaG) (hz := zX) X<|zZ X zo X zl X X<|zH X X (fun _ hC => (zf (j := 0) hC.sub (hc44.up (s52.le.trans le56)) X X X zz))<|u_eql X X X<|zbC ?_
   rintro w70 ⟨h71, s72⟩
   have st73 := st57.call0 s72
   refine O ?_
   refine zC rfl (fun c74 => ?_) (fun c74 => ?_)
   ·
    refine W.sr<|zF X X<|Y<|zw<|zK<|zd<|zd<|zK<|zK<|zd<|zd<|zK<|zd<|zb zfz ?_
    refine ⟨h71, _, rfl, st73.done, ?_⟩
    refine zx ?_
    have q := ziH (f := (·.number)) he hd (by omega) (by assumption)
    simp [zcB, q]
   refine zy<|zO<|O<|zn<|zh X X<|zaM X X t_om X<|zq X X<|Y ?_
   refine ⟨⟨k + 1, h71⟩, ⟨rfl, trivial⟩, ?_, ⟨(le56.trans s72.le), st73, ?_, ?_⟩, ?_⟩
   ·exact zau
   ·first | omega | (simp; omega)
   ·intro j c2 h1 h2
    rcases Nat.lt_or_ge j k with h3 | h3
    ·exact hq j c2 h3 h2
    ·obtain rfl : j = k := by omega
     rw [h2] at he; cases he; assumption
   show i - ((k + 1)) < i - k
   omega
  refine zaI<|zm<|zm<|zam<|zO<|O<|zn<|zh X X<|zaM X X t_om X<|zq X X<|Y ?_
  have HD : zaj t d = true := by simpa using c54
  refine ⟨⟨i + 1, h55⟩, ⟨rfl, trivial⟩, ?_, ⟨((le37.trans s52.le).trans le56), st57, ?_, ?_, ?_⟩, ?_⟩
  ·exact zau
  ·first | omega | (simp; omega)
  ·exact zct hD hd HD
  ·exact nodup_take_succ hN hd (by omega) (fun j c2 h1 h2 => hq j c2 (by omega) h2)
  show x.decisions.length - ((i + 1)) < x.decisions.length - i
  omega
 refine zaI<|zm<|zm<|zam<|O<|W.sr<|zF X X<|Y<|zw<|zb zfz ?_
 refine ⟨h36, _, rfl, st38.done, ?_⟩
 refine zx ?_
 have q1 := zcX hR (by omega)
 have q2 := zcX hD (by omega)
 have q3 : x.decisions.take i = x.decisions := List.take_of_length_le (by omega)
 rw [q3] at hN
 simp [zcB, q1, q2, hN]
 omega
theorem c_postilref04_Check {h : Heap} {w : World} (hs : Sub h w) {t : Text} {t_v0 : Value} (t_f0 : Sl LChapter h t_v0 t.chapters) {x : Lexicon} {x_v0 : Value} (x_f0 : Sl LRule h x_v0 x.rules) {x_v1 : Value} (x_f1 : Sl LDecision h x_v1 x.decisions) : Calls Tryz.prog 104 #[.agg #[t_v0], .agg #[x_v0, x_v1]] w (Rets h w (fun _ _ res_ => res_ = .int .i64 (zaR t x))) := by
 refine zP (n := 15) Tryz.func104 X X X<|have st0:=t_s0 hs;have t_f0_b:=t_f0.le;have x_f0_b:=x_f0.le;have x_f1_b:=x_f1.le;W.sr<|zJ st0 (cs := [t_v0]) X X X<|fun b1 w2 h3 le4 hc5 st6=>zJ st6 (cs := [x_v0, x_v1]) X X X<|fun b7 w8 h9 le10 hc11 st12=>zq X X<|Y<|zj<|W.sr<|zr st12.sub (hc5.up le10) X zbk zaA X X<|have l13:=le4.trans le10;ze st12 X X X Tryz.call145 X (c_postilref01_Check st12.sub (t := t) (t_f0.up l13))<|fun r14 w15 h16 le17 st18 q19=> ?_
 obtain rfl := q19
 refine zq X X<|Y<|W.sr<|zh X X<|zcf X X X<|Y ?_
 refine zC rfl (fun c20 => ?_) (fun c20 => ?_)
 ·
  refine W.sr<|zh X X<|zq X X<|Y<|zw<|zd<|zb Tryz.results104 ?_
  refine ⟨h16, _, rfl, st18.done, ?_⟩
  refine zah ?_
  simp_all [zaR]
 refine zy<|O<|zj<|W.sr<|zr st18.sub (hc5.up (le10.trans le17)) X zbk zaA X X<|zr st18.sub (hc11.up le17) X zbL zaC X X<|have l21:=l13.trans le17;ze st18 X X X Tryz.call116 X (c_postilref04_Lexicon st18.sub (t := t) (t_f0.up l21) (x := x) (x_f0.up l21) (x_f1.up l21))<|fun r22 w23 h24 le25 st26 q27=> ?_
 obtain rfl := q27
 refine zbl X X<|Y ?_
 refine zae rfl (fun c28 => ?_) (fun c28 => ?_)
 ·
  refine W.sr<|zq X X<|Y<|zw<|zd<|zb Tryz.results104 ?_
  refine ⟨h24, _, rfl, st26.done, ?_⟩
  refine zah ?_
  simp_all [zaR]
 refine zy<|O<|W.sr<|zq X X<|Y<|zw<|zb Tryz.results104 ?_
 refine ⟨h24, _, rfl, st26.done, ?_⟩
 refine zah ?_
 simp_all [zaR]
end Go.Pk

namespace Go.Pk
open Go Go.RowKit Go.Proofs
end Go.Pk

namespace Go.Pk
open Go Go.RowKit Go.Proofs
theorem zgO {xs : List Int} {v : Value} {g : FuncId} {caps : List Value} (S : Nat → Heap → World → Prop) (p : Nat → Bool)
  (hS : ∀ k h w, S k h w → Sub h w ∧ Sl LInt h v xs)
  (hf : ∀ k x h w vs, S k h w → xs[k]? = some x → LInt.R h vs x → ∀ u, vs = [u] → Calls Tryz.prog g (u :: caps).toArray w (fun e w' => ∃ h', e = .returned (.bool (p k)) ∧ S (k + 1) h' w'))
  (hg : ∀ a w, (callFunc g a).run Tryz.prog w = .ok (.enter g a) w) {h : Heap} {w : World} (h0 : S 0 h w) :
  Calls Tryz.prog 144 #[v, .func (.func g) #[] caps.toArray] w (fun e w' => ∃ h' k, e = .returned (.int .i64 (if k < xs.length then (k : Int) else -1)) ∧ k ≤ xs.length ∧ (∀ j, j < k → p j = false) ∧ (k < xs.length → p k = true) ∧ S (if k < xs.length then k + 1 else k) h' w') := by
 refine zP (n := 19) Tryz.func144 X X X<|have hb:=(hS 0 h w h0).2.le;W.sr<|zq X X<|Y<|zj<|W.sr<|zR (v := v) X X<|zaH (hS 0 h w h0).2 X zg X<|zh X X<|Y<|zG ?_
 refine zax ([4, 5] ++ t_rg 8 11) (G := Nat × Heap) (fun ⟨k, _⟩ => [(8, .int .i64 (k : Int))]) (fun ⟨k, h'⟩ w' => S k h' w' ∧ k ≤ xs.length ∧ ∀ j, j < k → p j = false) (fun ⟨k, _⟩ => xs.length - k) ⟨0, h⟩ ⟨rfl, trivial⟩ ⟨h0, by omega, by intros; omega⟩ ?_
 rintro ⟨k, h1⟩ _ w1 ⟨hS1, hk, hp⟩
 obtain ⟨hsub, hsl⟩ := hS k h1 w1 hS1
 refine W.sr<|zaX X X X<|Y<|zj ?_
 refine zae rfl (fun c1 => ?_) (fun c1 => ?_)
 ·replace c1 := t_ot c1
  refine zy<|O<|zj<|zG<|W.sr<|zh X X<|zq X X<|Y<|W.sr<|zgY X X<|zR (v := v) X X<|zh X X ?_
  have hy : ∃ y, xs[k]? = some y := ⟨_, List.getElem?_eq_getElem (by omega)⟩
  obtain ⟨y, hy⟩ := hy
  obtain ⟨b, o, vs, he, hc, hr⟩ := Sl.elem hsl hy
  refine zU he X X (hk := X) (hu := zg) (hz := zl) X ?_
  obtain ⟨u, rfl⟩ : ∃ u, vs = [u] := by
   have q := LInt.len hr
   match vs, q with
   | [u], _ => exact ⟨u, rfl⟩
  refine U (j := 0) hsub hc X X X zz X ?_
  refine zay rfl rfl (zca (fs := []) (cs := caps) rfl rfl hg rfl) ((hf k y h1 w1 _ hS1 hy hr _ rfl).mono ?_)
  rintro e w2 ⟨h2, rfl, hS2⟩
  refine ⟨_, rfl, ?_⟩
  refine Y ?_
  refine zae rfl (fun c2 => ?_) (fun c2 => ?_)
  ·refine zj ?_
   refine zn<|zh X X<|zq X X<|Y<|zw ?_
   repeat (first | refine zK ?_ | refine zd ?_)
   refine zb Tryz.results144 ?_
   have hlt : k < xs.length := by omega
   exact ⟨h2, k, by rw [if_pos hlt]; rfl, hk, hp, fun _ => c2, by rw [if_pos hlt]; exact hS2⟩
  ·refine zy ?_
   refine zO<|O<|zn ?_
   refine zi rfl rfl (zhs rfl rfl (by omega)) ?_
   refine zh X X<|Y ?_
   refine ⟨⟨k + 1, h2⟩, ⟨rfl, trivial⟩, ?_, ⟨hS2, by omega, ?_⟩, ?_⟩
   ·exact zau
   ·intro j hj
    rcases Nat.lt_or_ge j k with h3 | h3
    ·exact hp j h3
    ·obtain rfl : j = k := by omega
     exact c2
   ·show xs.length - (k + 1) < xs.length - k
    omega
 ·replace c1 := t_of c1
  refine zaI<|zm<|zm<|zam<|O<|W.sr<|zq X X<|Y<|zw<|zb Tryz.results144 ?_
  have hlt : ¬ k < xs.length := by omega
  exact ⟨h1, k, by rw [if_neg hlt]; rfl, hk, hp, fun q => absurd q hlt, by rw [if_neg hlt]; exact hS1⟩

theorem zgn {xs : List Int} {v : Value} {g : FuncId} {caps : List Value} (S : Nat → Heap → World → Prop) (p : Nat → Bool)
  (hS : ∀ k h w, S k h w → Sub h w ∧ Sl LInt h v xs)
  (hf : ∀ k x h w vs, S k h w → xs[k]? = some x → LInt.R h vs x → ∀ u, vs = [u] → Calls Tryz.prog g (u :: caps).toArray w (fun e w' => ∃ h', e = .returned (.bool (p k)) ∧ S (k + 1) h' w'))
  (hg : ∀ a w, (callFunc g a).run Tryz.prog w = .ok (.enter g a) w) {h : Heap} {w : World} (h0 : S 0 h w) :
  Calls Tryz.prog 101 #[v, .func (.func g) #[] caps.toArray] w (fun e w' => ∃ h' k, e = .returned (.bool (decide (k < xs.length))) ∧ k ≤ xs.length ∧ (∀ j, j < k → p j = false) ∧ (k < xs.length → p k = true) ∧ S (if k < xs.length then k + 1 else k) h' w') := by
 refine zP (n := 9) Tryz.func101 X X X<|W.sr<|zF X X<|Y<|W.sr<|zR (v := v) X X<|zgY X X ?_
 refine zay rfl rfl (zaV rfl Tryz.call144 rfl) ((zgO S p hS hf hg h0).mono ?_)
 rintro e w2 ⟨h2, k, rfl, q1, q2, q3, q4⟩
 refine ⟨_, rfl, ?_⟩
 refine zhq X X X<|zF X X<|Y<|zw<|zb Tryz.results101 ?_
 refine ⟨h2, k, congrArg Ending.returned (zx ?_), q1, q2, q3, q4⟩
 by_cases hlt : k < xs.length
 ·simp [hlt]
 ·simp [hlt]
theorem zdo {xs : List Int} {v : Value} {g : FuncId} {caps : List Value} {h : Heap} {w : World} (hs : Sub h w) (hx : Sl LInt h v xs) (q : Int → Bool)
  (hg : ∀ a w, (callFunc g a).run Tryz.prog w = .ok (.enter g a) w)
  (hf : ∀ x h' w' vs, Le h h' → Sub h' w' → x ∈ xs → LInt.R h' vs x → ∀ u, vs = [u] → Calls Tryz.prog g (u :: caps).toArray w' (Rets h' w' fun _ _ r => r = .bool (q x))) :
  Calls Tryz.prog 101 #[v, .func (.func g) #[] caps.toArray] w (Rets h w fun _ _ r => r = .bool (xs.any q)) := by
 refine (zgn (fun k h' w' => St h w h' w' [] ∧ k ≤ xs.length) (fun k => ((xs[k]?).map q).getD false) (fun k h' w' hk => ⟨hk.1.sub, hx.up hk.1.le⟩) ?_ hg ⟨St.start hs, Nat.zero_le _⟩).mono ?_
 ·rintro k x h' w' vs ⟨st, _⟩ hk hr u hu
  refine (hf x h' w' vs st.le st.sub (List.mem_of_getElem? hk) hr u hu).mono ?_
  rintro e w'' ⟨h'', r, rfl, s, rfl⟩
  obtain ⟨hlt, _⟩ := List.getElem?_eq_some_iff.1 hk
  exact ⟨h'', by simp [hk], st.call0 s, hlt⟩
 ·rintro e w' ⟨h', k, rfl, q1, q2, q3, q4⟩
  refine ⟨h', _, rfl, q4.1, zx ?_⟩
  by_cases hlt : k < xs.length
  ·have h3 := q3 hlt
   rw [List.getElem?_eq_getElem hlt] at h3
   simp only [Option.map_some, Option.getD_some] at h3
   have : xs.any q = true := List.any_eq_true.2 ⟨_, List.getElem_mem hlt, h3⟩
   simp [hlt, this]
  ·have : xs.any q = false := by
    rw [List.any_eq_false]
    intro x hx'
    obtain ⟨j, hj⟩ := List.mem_iff_getElem?.1 hx'
    obtain ⟨h5, _⟩ := List.getElem?_eq_some_iff.1 hj
    have := q2 j (by omega)
    simpa [hj] using this
   simp [hlt, this]

theorem zgv {xs : List Int} {v : Value} {g : FuncId} {caps : List Value} (S : Nat → Heap → World → Prop) (p : Nat → Bool)
  (hS : ∀ k h w, S k h w → Sub h w ∧ Sl LU8 h v xs)
  (hf : ∀ k x h w vs, S k h w → xs[k]? = some x → LU8.R h vs x → ∀ u, vs = [u] → Calls Tryz.prog g (u :: caps).toArray w (fun e w' => ∃ h', e = .returned (.bool (p k)) ∧ S (k + 1) h' w'))
  (hg : ∀ a w, (callFunc g a).run Tryz.prog w = .ok (.enter g a) w) {h : Heap} {w : World} (h0 : S 0 h w) :
  Calls Tryz.prog 187 #[v, .func (.func g) #[] caps.toArray] w (fun e w' => ∃ h' k, e = .returned (.int .i64 (if k < xs.length then (k : Int) else -1)) ∧ k ≤ xs.length ∧ (∀ j, j < k → p j = false) ∧ (k < xs.length → p k = true) ∧ S (if k < xs.length then k + 1 else k) h' w') := by
 refine zP (n := 19) Tryz.func187 X X X<|have hb:=(hS 0 h w h0).2.le;W.sr<|zq X X<|Y<|zj<|W.sr<|zR (v := v) X X<|zaH (hS 0 h w h0).2 X Tryz.underlying215 X<|zh X X<|Y<|zG ?_
 refine zax ([4, 5] ++ t_rg 8 11) (G := Nat × Heap) (fun ⟨k, _⟩ => [(8, .int .i64 (k : Int))]) (fun ⟨k, h'⟩ w' => S k h' w' ∧ k ≤ xs.length ∧ ∀ j, j < k → p j = false) (fun ⟨k, _⟩ => xs.length - k) ⟨0, h⟩ ⟨rfl, trivial⟩ ⟨h0, by omega, by intros; omega⟩ ?_
 rintro ⟨k, h1⟩ _ w1 ⟨hS1, hk, hp⟩
 obtain ⟨hsub, hsl⟩ := hS k h1 w1 hS1
 refine W.sr<|zaX X X X<|Y<|zj ?_
 refine zae rfl (fun c1 => ?_) (fun c1 => ?_)
 ·replace c1 := t_ot c1
  refine zy<|O<|zj<|zG<|W.sr<|zh X X<|zq X X<|Y<|W.sr<|zgY X X<|zR (v := v) X X<|zh X X ?_
  have hy : ∃ y, xs[k]? = some y := ⟨_, List.getElem?_eq_getElem (by omega)⟩
  obtain ⟨y, hy⟩ := hy
  obtain ⟨b, o, vs, he, hc, hr⟩ := Sl.elem hsl hy
  refine zU he X X (hk := X) (hu := Tryz.underlying215) (hz := zbu) X ?_
  obtain ⟨u, rfl⟩ : ∃ u, vs = [u] := by
   have q := LU8.len hr
   match vs, q with
   | [u], _ => exact ⟨u, rfl⟩
  refine U (j := 0) hsub hc X X X zbV X ?_
  refine zay rfl rfl (zca (fs := []) (cs := caps) rfl rfl hg rfl) ((hf k y h1 w1 _ hS1 hy hr _ rfl).mono ?_)
  rintro e w2 ⟨h2, rfl, hS2⟩
  refine ⟨_, rfl, ?_⟩
  refine Y ?_
  refine zae rfl (fun c2 => ?_) (fun c2 => ?_)
  ·refine zj ?_
   refine zn<|zh X X<|zq X X<|Y<|zw ?_
   repeat (first | refine zK ?_ | refine zd ?_)
   refine zb Tryz.results187 ?_
   have hlt : k < xs.length := by omega
   exact ⟨h2, k, by rw [if_pos hlt]; rfl, hk, hp, fun _ => c2, by rw [if_pos hlt]; exact hS2⟩
  ·refine zy ?_
   refine zO<|O<|zn ?_
   refine zi rfl rfl (zhs rfl rfl (by omega)) ?_
   refine zh X X<|Y ?_
   refine ⟨⟨k + 1, h2⟩, ⟨rfl, trivial⟩, ?_, ⟨hS2, by omega, ?_⟩, ?_⟩
   ·exact zau
   ·intro j hj
    rcases Nat.lt_or_ge j k with h3 | h3
    ·exact hp j h3
    ·obtain rfl : j = k := by omega
     exact c2
   ·show xs.length - (k + 1) < xs.length - k
    omega
 ·replace c1 := t_of c1
  refine zaI<|zm<|zm<|zam<|O<|W.sr<|zq X X<|Y<|zw<|zb Tryz.results187 ?_
  have hlt : ¬ k < xs.length := by omega
  exact ⟨h1, k, by rw [if_neg hlt]; rfl, hk, hp, fun q => absurd q hlt, by rw [if_neg hlt]; exact hS1⟩

theorem zfO {xs : List Int} {v : Value} {g : FuncId} {caps : List Value} (S : Nat → Heap → World → Prop) (p : Nat → Bool)
  (hS : ∀ k h w, S k h w → Sub h w ∧ Sl LU8 h v xs)
  (hf : ∀ k x h w vs, S k h w → xs[k]? = some x → LU8.R h vs x → ∀ u, vs = [u] → Calls Tryz.prog g (u :: caps).toArray w (fun e w' => ∃ h', e = .returned (.bool (p k)) ∧ S (k + 1) h' w'))
  (hg : ∀ a w, (callFunc g a).run Tryz.prog w = .ok (.enter g a) w) {h : Heap} {w : World} (h0 : S 0 h w) :
  Calls Tryz.prog 139 #[v, .func (.func g) #[] caps.toArray] w (fun e w' => ∃ h' k, e = .returned (.bool (decide (k < xs.length))) ∧ k ≤ xs.length ∧ (∀ j, j < k → p j = false) ∧ (k < xs.length → p k = true) ∧ S (if k < xs.length then k + 1 else k) h' w') := by
 refine zP (n := 9) Tryz.func139 X X X<|W.sr<|zF X X<|Y<|W.sr<|zR (v := v) X X<|zgY X X ?_
 refine zay rfl rfl (zaV rfl Tryz.call187 rfl) ((zgv S p hS hf hg h0).mono ?_)
 rintro e w2 ⟨h2, k, rfl, q1, q2, q3, q4⟩
 refine ⟨_, rfl, ?_⟩
 refine zhq X X X<|zF X X<|Y<|zw<|zb Tryz.results139 ?_
 refine ⟨h2, k, congrArg Ending.returned (zx ?_), q1, q2, q3, q4⟩
 by_cases hlt : k < xs.length
 ·simp [hlt]
 ·simp [hlt]
theorem zeg {xs : List Int} {v : Value} {g : FuncId} {caps : List Value} {h : Heap} {w : World} (hs : Sub h w) (hx : Sl LU8 h v xs) (q : Int → Bool)
  (hg : ∀ a w, (callFunc g a).run Tryz.prog w = .ok (.enter g a) w)
  (hf : ∀ x h' w' vs, Le h h' → Sub h' w' → x ∈ xs → LU8.R h' vs x → ∀ u, vs = [u] → Calls Tryz.prog g (u :: caps).toArray w' (Rets h' w' fun _ _ r => r = .bool (q x))) :
  Calls Tryz.prog 139 #[v, .func (.func g) #[] caps.toArray] w (Rets h w fun _ _ r => r = .bool (xs.any q)) := by
 refine (zfO (fun k h' w' => St h w h' w' [] ∧ k ≤ xs.length) (fun k => ((xs[k]?).map q).getD false) (fun k h' w' hk => ⟨hk.1.sub, hx.up hk.1.le⟩) ?_ hg ⟨St.start hs, Nat.zero_le _⟩).mono ?_
 ·rintro k x h' w' vs ⟨st, _⟩ hk hr u hu
  refine (hf x h' w' vs st.le st.sub (List.mem_of_getElem? hk) hr u hu).mono ?_
  rintro e w'' ⟨h'', r, rfl, s, rfl⟩
  obtain ⟨hlt, _⟩ := List.getElem?_eq_some_iff.1 hk
  exact ⟨h'', by simp [hk], st.call0 s, hlt⟩
 ·rintro e w' ⟨h', k, rfl, q1, q2, q3, q4⟩
  refine ⟨h', _, rfl, q4.1, zx ?_⟩
  by_cases hlt : k < xs.length
  ·have h3 := q3 hlt
   rw [List.getElem?_eq_getElem hlt] at h3
   simp only [Option.map_some, Option.getD_some] at h3
   have : xs.any q = true := List.any_eq_true.2 ⟨_, List.getElem_mem hlt, h3⟩
   simp [hlt, this]
  ·have : xs.any q = false := by
    rw [List.any_eq_false]
    intro x hx'
    obtain ⟨j, hj⟩ := List.mem_iff_getElem?.1 hx'
    obtain ⟨h5, _⟩ := List.getElem?_eq_some_iff.1 hj
    have := q2 j (by omega)
    simpa [hj] using this
   simp [hlt, this]

theorem zdL {xs : List Str} {v : Value} {g : FuncId} {caps : List Value} (S : Nat → Heap → World → Prop) (p : Nat → Bool)
  (hS : ∀ k h w, S k h w → Sub h w ∧ Sl LStr h v xs)
  (hf : ∀ k x h w vs, S k h w → xs[k]? = some x → LStr.R h vs x → ∀ u, vs = [u] → Calls Tryz.prog g (u :: caps).toArray w (fun e w' => ∃ h', e = .returned (.bool (p k)) ∧ S (k + 1) h' w'))
  (hg : ∀ a w, (callFunc g a).run Tryz.prog w = .ok (.enter g a) w) {h : Heap} {w : World} (h0 : S 0 h w) :
  Calls Tryz.prog 123 #[v, .func (.func g) #[] caps.toArray] w (fun e w' => ∃ h' k, e = .returned (.int .i64 (if k < xs.length then (k : Int) else -1)) ∧ k ≤ xs.length ∧ (∀ j, j < k → p j = false) ∧ (k < xs.length → p k = true) ∧ S (if k < xs.length then k + 1 else k) h' w') := by
 refine zP (n := 19) Tryz.func123 X X X<|have hb:=(hS 0 h w h0).2.le;W.sr<|zq X X<|Y<|zj<|W.sr<|zR (v := v) X X<|zaH (hS 0 h w h0).2 X zV X<|zh X X<|Y<|zG ?_
 refine zax ([4, 5] ++ t_rg 8 11) (G := Nat × Heap) (fun ⟨k, _⟩ => [(8, .int .i64 (k : Int))]) (fun ⟨k, h'⟩ w' => S k h' w' ∧ k ≤ xs.length ∧ ∀ j, j < k → p j = false) (fun ⟨k, _⟩ => xs.length - k) ⟨0, h⟩ ⟨rfl, trivial⟩ ⟨h0, by omega, by intros; omega⟩ ?_
 rintro ⟨k, h1⟩ _ w1 ⟨hS1, hk, hp⟩
 obtain ⟨hsub, hsl⟩ := hS k h1 w1 hS1
 refine W.sr<|zaX X X X<|Y<|zj ?_
 refine zae rfl (fun c1 => ?_) (fun c1 => ?_)
 ·replace c1 := t_ot c1
  refine zy<|O<|zj<|zG<|W.sr<|zh X X<|zq X X<|Y<|W.sr<|zgY X X<|zR (v := v) X X<|zh X X ?_
  have hy : ∃ y, xs[k]? = some y := ⟨_, List.getElem?_eq_getElem (by omega)⟩
  obtain ⟨y, hy⟩ := hy
  obtain ⟨b, o, vs, he, hc, hr⟩ := Sl.elem hsl hy
  refine zU he X X (hk := X) (hu := zV) (hz := zak) X ?_
  obtain ⟨u, rfl⟩ : ∃ u, vs = [u] := by
   have q := LStr.len hr
   match vs, q with
   | [u], _ => exact ⟨u, rfl⟩
  refine U (j := 0) hsub hc X X X zaD X ?_
  refine zay rfl rfl (zca (fs := []) (cs := caps) rfl rfl hg rfl) ((hf k y h1 w1 _ hS1 hy hr _ rfl).mono ?_)
  rintro e w2 ⟨h2, rfl, hS2⟩
  refine ⟨_, rfl, ?_⟩
  refine Y ?_
  refine zae rfl (fun c2 => ?_) (fun c2 => ?_)
  ·refine zj ?_
   refine zn<|zh X X<|zq X X<|Y<|zw ?_
   repeat (first | refine zK ?_ | refine zd ?_)
   refine zb Tryz.results123 ?_
   have hlt : k < xs.length := by omega
   exact ⟨h2, k, by rw [if_pos hlt]; rfl, hk, hp, fun _ => c2, by rw [if_pos hlt]; exact hS2⟩
  ·refine zy ?_
   refine zO<|O<|zn ?_
   refine zi rfl rfl (zhs rfl rfl (by omega)) ?_
   refine zh X X<|Y ?_
   refine ⟨⟨k + 1, h2⟩, ⟨rfl, trivial⟩, ?_, ⟨hS2, by omega, ?_⟩, ?_⟩
   ·exact zau
   ·intro j hj
    rcases Nat.lt_or_ge j k with h3 | h3
    ·exact hp j h3
    ·obtain rfl : j = k := by omega
     exact c2
   ·show xs.length - (k + 1) < xs.length - k
    omega
 ·replace c1 := t_of c1
  refine zaI<|zm<|zm<|zam<|O<|W.sr<|zq X X<|Y<|zw<|zb Tryz.results123 ?_
  have hlt : ¬ k < xs.length := by omega
  exact ⟨h1, k, by rw [if_neg hlt]; rfl, hk, hp, fun q => absurd q hlt, by rw [if_neg hlt]; exact hS1⟩

theorem zeZ {xs : List Str} {v : Value} {g : FuncId} {caps : List Value} (S : Nat → Heap → World → Prop) (p : Nat → Bool)
  (hS : ∀ k h w, S k h w → Sub h w ∧ Sl LStr h v xs)
  (hf : ∀ k x h w vs, S k h w → xs[k]? = some x → LStr.R h vs x → ∀ u, vs = [u] → Calls Tryz.prog g (u :: caps).toArray w (fun e w' => ∃ h', e = .returned (.bool (p k)) ∧ S (k + 1) h' w'))
  (hg : ∀ a w, (callFunc g a).run Tryz.prog w = .ok (.enter g a) w) {h : Heap} {w : World} (h0 : S 0 h w) :
  Calls Tryz.prog 176 #[v, .func (.func g) #[] caps.toArray] w (fun e w' => ∃ h' k, e = .returned (.bool (decide (k < xs.length))) ∧ k ≤ xs.length ∧ (∀ j, j < k → p j = false) ∧ (k < xs.length → p k = true) ∧ S (if k < xs.length then k + 1 else k) h' w') := by
 refine zP (n := 9) Tryz.func176 X X X<|W.sr<|zF X X<|Y<|W.sr<|zR (v := v) X X<|zgY X X ?_
 refine zay rfl rfl (zaV rfl Tryz.call123 rfl) ((zdL S p hS hf hg h0).mono ?_)
 rintro e w2 ⟨h2, k, rfl, q1, q2, q3, q4⟩
 refine ⟨_, rfl, ?_⟩
 refine zhq X X X<|zF X X<|Y<|zw<|zb Tryz.results176 ?_
 refine ⟨h2, k, congrArg Ending.returned (zx ?_), q1, q2, q3, q4⟩
 by_cases hlt : k < xs.length
 ·simp [hlt]
 ·simp [hlt]
theorem zfH {xs : List Str} {v : Value} {g : FuncId} {caps : List Value} {h : Heap} {w : World} (hs : Sub h w) (hx : Sl LStr h v xs) (q : Str → Bool)
  (hg : ∀ a w, (callFunc g a).run Tryz.prog w = .ok (.enter g a) w)
  (hf : ∀ x h' w' vs, Le h h' → Sub h' w' → x ∈ xs → LStr.R h' vs x → ∀ u, vs = [u] → Calls Tryz.prog g (u :: caps).toArray w' (Rets h' w' fun _ _ r => r = .bool (q x))) :
  Calls Tryz.prog 176 #[v, .func (.func g) #[] caps.toArray] w (Rets h w fun _ _ r => r = .bool (xs.any q)) := by
 refine (zeZ (fun k h' w' => St h w h' w' [] ∧ k ≤ xs.length) (fun k => ((xs[k]?).map q).getD false) (fun k h' w' hk => ⟨hk.1.sub, hx.up hk.1.le⟩) ?_ hg ⟨St.start hs, Nat.zero_le _⟩).mono ?_
 ·rintro k x h' w' vs ⟨st, _⟩ hk hr u hu
  refine (hf x h' w' vs st.le st.sub (List.mem_of_getElem? hk) hr u hu).mono ?_
  rintro e w'' ⟨h'', r, rfl, s, rfl⟩
  obtain ⟨hlt, _⟩ := List.getElem?_eq_some_iff.1 hk
  exact ⟨h'', by simp [hk], st.call0 s, hlt⟩
 ·rintro e w' ⟨h', k, rfl, q1, q2, q3, q4⟩
  refine ⟨h', _, rfl, q4.1, zx ?_⟩
  by_cases hlt : k < xs.length
  ·have h3 := q3 hlt
   rw [List.getElem?_eq_getElem hlt] at h3
   simp only [Option.map_some, Option.getD_some] at h3
   have : xs.any q = true := List.any_eq_true.2 ⟨_, List.getElem_mem hlt, h3⟩
   simp [hlt, this]
  ·have : xs.any q = false := by
    rw [List.any_eq_false]
    intro x hx'
    obtain ⟨j, hj⟩ := List.mem_iff_getElem?.1 hx'
    obtain ⟨h5, _⟩ := List.getElem?_eq_some_iff.1 hj
    have := q2 j (by omega)
    simpa [hj] using this
   simp [hlt, this]

theorem zeS {xs : List Rule} {v : Value} {g : FuncId} {caps : List Value} (S : Nat → Heap → World → Prop) (p : Nat → Bool)
  (hS : ∀ k h w, S k h w → Sub h w ∧ Sl LRule h v xs)
  (hf : ∀ k x h w vs, S k h w → xs[k]? = some x → LRule.R h vs x → ∀ u, u = .agg vs.toArray → Calls Tryz.prog g (u :: caps).toArray w (fun e w' => ∃ h', e = .returned (.bool (p k)) ∧ S (k + 1) h' w'))
  (hg : ∀ a w, (callFunc g a).run Tryz.prog w = .ok (.enter g a) w) {h : Heap} {w : World} (h0 : S 0 h w) :
  Calls Tryz.prog 223 #[v, .func (.func g) #[] caps.toArray] w (fun e w' => ∃ h' k, e = .returned (.int .i64 (if k < xs.length then (k : Int) else -1)) ∧ k ≤ xs.length ∧ (∀ j, j < k → p j = false) ∧ (k < xs.length → p k = true) ∧ S (if k < xs.length then k + 1 else k) h' w') := by
 refine zP (n := 19) Tryz.func223 X X X<|have hb:=(hS 0 h w h0).2.le;W.sr<|zq X X<|Y<|zj<|W.sr<|zR (v := v) X X<|zaH (hS 0 h w h0).2 X zbd X<|zh X X<|Y<|zG ?_
 refine zax ([4, 5] ++ t_rg 8 11) (G := Nat × Heap) (fun ⟨k, _⟩ => [(8, .int .i64 (k : Int))]) (fun ⟨k, h'⟩ w' => S k h' w' ∧ k ≤ xs.length ∧ ∀ j, j < k → p j = false) (fun ⟨k, _⟩ => xs.length - k) ⟨0, h⟩ ⟨rfl, trivial⟩ ⟨h0, by omega, by intros; omega⟩ ?_
 rintro ⟨k, h1⟩ _ w1 ⟨hS1, hk, hp⟩
 obtain ⟨hsub, hsl⟩ := hS k h1 w1 hS1
 refine W.sr<|zaX X X X<|Y<|zj ?_
 refine zae rfl (fun c1 => ?_) (fun c1 => ?_)
 ·replace c1 := t_ot c1
  refine zy<|O<|zj<|zG<|W.sr<|zh X X<|zq X X<|Y<|W.sr<|zgY X X<|zR (v := v) X X<|zh X X ?_
  have hy : ∃ y, xs[k]? = some y := ⟨_, List.getElem?_eq_getElem (by omega)⟩
  obtain ⟨y, hy⟩ := hy
  obtain ⟨b, o, vs, he, hc, hr⟩ := Sl.elem hsl hy
  refine zU he X X (hk := X) (hu := zbd) (hz := zcV) X<|zr hsub hc X Tryz.isAgg68 zcV (LRule.len hr) X ?_
  refine zay rfl rfl (zca (fs := []) (cs := caps) rfl rfl hg rfl) ((hf k y h1 w1 _ hS1 hy hr _ rfl).mono ?_)
  rintro e w2 ⟨h2, rfl, hS2⟩
  refine ⟨_, rfl, ?_⟩
  refine Y ?_
  refine zae rfl (fun c2 => ?_) (fun c2 => ?_)
  ·refine zj ?_
   refine zn<|zh X X<|zq X X<|Y<|zw ?_
   repeat (first | refine zK ?_ | refine zd ?_)
   refine zb Tryz.results223 ?_
   have hlt : k < xs.length := by omega
   exact ⟨h2, k, by rw [if_pos hlt]; rfl, hk, hp, fun _ => c2, by rw [if_pos hlt]; exact hS2⟩
  ·refine zy ?_
   refine zO<|O<|zn ?_
   refine zi rfl rfl (zhs rfl rfl (by omega)) ?_
   refine zh X X<|Y ?_
   refine ⟨⟨k + 1, h2⟩, ⟨rfl, trivial⟩, ?_, ⟨hS2, by omega, ?_⟩, ?_⟩
   ·exact zau
   ·intro j hj
    rcases Nat.lt_or_ge j k with h3 | h3
    ·exact hp j h3
    ·obtain rfl : j = k := by omega
     exact c2
   ·show xs.length - (k + 1) < xs.length - k
    omega
 ·replace c1 := t_of c1
  refine zaI<|zm<|zm<|zam<|O<|W.sr<|zq X X<|Y<|zw<|zb Tryz.results223 ?_
  have hlt : ¬ k < xs.length := by omega
  exact ⟨h1, k, by rw [if_neg hlt]; rfl, hk, hp, fun q => absurd q hlt, by rw [if_neg hlt]; exact hS1⟩

theorem zew {xs : List Rule} {v : Value} {g : FuncId} {caps : List Value} (S : Nat → Heap → World → Prop) (p : Nat → Bool)
  (hS : ∀ k h w, S k h w → Sub h w ∧ Sl LRule h v xs)
  (hf : ∀ k x h w vs, S k h w → xs[k]? = some x → LRule.R h vs x → ∀ u, u = .agg vs.toArray → Calls Tryz.prog g (u :: caps).toArray w (fun e w' => ∃ h', e = .returned (.bool (p k)) ∧ S (k + 1) h' w'))
  (hg : ∀ a w, (callFunc g a).run Tryz.prog w = .ok (.enter g a) w) {h : Heap} {w : World} (h0 : S 0 h w) :
  Calls Tryz.prog 179 #[v, .func (.func g) #[] caps.toArray] w (fun e w' => ∃ h' k, e = .returned (.bool (decide (k < xs.length))) ∧ k ≤ xs.length ∧ (∀ j, j < k → p j = false) ∧ (k < xs.length → p k = true) ∧ S (if k < xs.length then k + 1 else k) h' w') := by
 refine zP (n := 9) Tryz.func179 X X X<|W.sr<|zF X X<|Y<|W.sr<|zR (v := v) X X<|zgY X X ?_
 refine zay rfl rfl (zaV rfl Tryz.call223 rfl) ((zeS S p hS hf hg h0).mono ?_)
 rintro e w2 ⟨h2, k, rfl, q1, q2, q3, q4⟩
 refine ⟨_, rfl, ?_⟩
 refine zhq X X X<|zF X X<|Y<|zw<|zb Tryz.results179 ?_
 refine ⟨h2, k, congrArg Ending.returned (zx ?_), q1, q2, q3, q4⟩
 by_cases hlt : k < xs.length
 ·simp [hlt]
 ·simp [hlt]
theorem zec {xs : List Decision} {v : Value} {g : FuncId} {caps : List Value} (S : Nat → Heap → World → Prop) (p : Nat → Bool)
  (hS : ∀ k h w, S k h w → Sub h w ∧ Sl LDecision h v xs)
  (hf : ∀ k x h w vs, S k h w → xs[k]? = some x → LDecision.R h vs x → ∀ u, u = .agg vs.toArray → Calls Tryz.prog g (u :: caps).toArray w (fun e w' => ∃ h', e = .returned (.bool (p k)) ∧ S (k + 1) h' w'))
  (hg : ∀ a w, (callFunc g a).run Tryz.prog w = .ok (.enter g a) w) {h : Heap} {w : World} (h0 : S 0 h w) :
  Calls Tryz.prog 225 #[v, .func (.func g) #[] caps.toArray] w (fun e w' => ∃ h' k, e = .returned (.int .i64 (if k < xs.length then (k : Int) else -1)) ∧ k ≤ xs.length ∧ (∀ j, j < k → p j = false) ∧ (k < xs.length → p k = true) ∧ S (if k < xs.length then k + 1 else k) h' w') := by
 refine zP (n := 19) Tryz.func225 X X X<|have hb:=(hS 0 h w h0).2.le;W.sr<|zq X X<|Y<|zj<|W.sr<|zR (v := v) X X<|zaH (hS 0 h w h0).2 X zaG X<|zh X X<|Y<|zG ?_
 refine zax ([4, 5] ++ t_rg 8 11) (G := Nat × Heap) (fun ⟨k, _⟩ => [(8, .int .i64 (k : Int))]) (fun ⟨k, h'⟩ w' => S k h' w' ∧ k ≤ xs.length ∧ ∀ j, j < k → p j = false) (fun ⟨k, _⟩ => xs.length - k) ⟨0, h⟩ ⟨rfl, trivial⟩ ⟨h0, by omega, by intros; omega⟩ ?_
 rintro ⟨k, h1⟩ _ w1 ⟨hS1, hk, hp⟩
 obtain ⟨hsub, hsl⟩ := hS k h1 w1 hS1
 refine W.sr<|zaX X X X<|Y<|zj ?_
 refine zae rfl (fun c1 => ?_) (fun c1 => ?_)
 ·replace c1 := t_ot c1
  refine zy<|O<|zj<|zG<|W.sr<|zh X X<|zq X X<|Y<|W.sr<|zgY X X<|zR (v := v) X X<|zh X X ?_
  have hy : ∃ y, xs[k]? = some y := ⟨_, List.getElem?_eq_getElem (by omega)⟩
  obtain ⟨y, hy⟩ := hy
  obtain ⟨b, o, vs, he, hc, hr⟩ := Sl.elem hsl hy
  refine zU he X X (hk := X) (hu := zaG) (hz := zX) X<|zr hsub hc X zaY zX (LDecision.len hr) X ?_
  refine zay rfl rfl (zca (fs := []) (cs := caps) rfl rfl hg rfl) ((hf k y h1 w1 _ hS1 hy hr _ rfl).mono ?_)
  rintro e w2 ⟨h2, rfl, hS2⟩
  refine ⟨_, rfl, ?_⟩
  refine Y ?_
  refine zae rfl (fun c2 => ?_) (fun c2 => ?_)
  ·refine zj ?_
   refine zn<|zh X X<|zq X X<|Y<|zw ?_
   repeat (first | refine zK ?_ | refine zd ?_)
   refine zb Tryz.results225 ?_
   have hlt : k < xs.length := by omega
   exact ⟨h2, k, by rw [if_pos hlt]; rfl, hk, hp, fun _ => c2, by rw [if_pos hlt]; exact hS2⟩
  ·refine zy ?_
   refine zO<|O<|zn ?_
   refine zi rfl rfl (zhs rfl rfl (by omega)) ?_
   refine zh X X<|Y ?_
   refine ⟨⟨k + 1, h2⟩, ⟨rfl, trivial⟩, ?_, ⟨hS2, by omega, ?_⟩, ?_⟩
   ·exact zau
   ·intro j hj
    rcases Nat.lt_or_ge j k with h3 | h3
    ·exact hp j h3
    ·obtain rfl : j = k := by omega
     exact c2
   ·show xs.length - (k + 1) < xs.length - k
    omega
 ·replace c1 := t_of c1
  refine zaI<|zm<|zm<|zam<|O<|W.sr<|zq X X<|Y<|zw<|zb Tryz.results225 ?_
  have hlt : ¬ k < xs.length := by omega
  exact ⟨h1, k, by rw [if_neg hlt]; rfl, hk, hp, fun q => absurd q hlt, by rw [if_neg hlt]; exact hS1⟩

theorem zdT {xs : List Decision} {v : Value} {g : FuncId} {caps : List Value} (S : Nat → Heap → World → Prop) (p : Nat → Bool)
  (hS : ∀ k h w, S k h w → Sub h w ∧ Sl LDecision h v xs)
  (hf : ∀ k x h w vs, S k h w → xs[k]? = some x → LDecision.R h vs x → ∀ u, u = .agg vs.toArray → Calls Tryz.prog g (u :: caps).toArray w (fun e w' => ∃ h', e = .returned (.bool (p k)) ∧ S (k + 1) h' w'))
  (hg : ∀ a w, (callFunc g a).run Tryz.prog w = .ok (.enter g a) w) {h : Heap} {w : World} (h0 : S 0 h w) :
  Calls Tryz.prog 184 #[v, .func (.func g) #[] caps.toArray] w (fun e w' => ∃ h' k, e = .returned (.bool (decide (k < xs.length))) ∧ k ≤ xs.length ∧ (∀ j, j < k → p j = false) ∧ (k < xs.length → p k = true) ∧ S (if k < xs.length then k + 1 else k) h' w') := by
 refine zP (n := 9) Tryz.func184 X X X<|W.sr<|zF X X<|Y<|W.sr<|zR (v := v) X X<|zgY X X ?_
 refine zay rfl rfl (zaV rfl Tryz.call225 rfl) ((zec S p hS hf hg h0).mono ?_)
 rintro e w2 ⟨h2, k, rfl, q1, q2, q3, q4⟩
 refine ⟨_, rfl, ?_⟩
 refine zhq X X X<|zF X X<|Y<|zw<|zb Tryz.results184 ?_
 refine ⟨h2, k, congrArg Ending.returned (zx ?_), q1, q2, q3, q4⟩
 by_cases hlt : k < xs.length
 ·simp [hlt]
 ·simp [hlt]
theorem zeB {xs : List Voter} {v : Value} {g : FuncId} {caps : List Value} (S : Nat → Heap → World → Prop) (p : Nat → Bool)
  (hS : ∀ k h w, S k h w → Sub h w ∧ Sl LVoter h v xs)
  (hf : ∀ k x h w vs, S k h w → xs[k]? = some x → LVoter.R h vs x → ∀ u, u = .agg vs.toArray → Calls Tryz.prog g (u :: caps).toArray w (fun e w' => ∃ h', e = .returned (.bool (p k)) ∧ S (k + 1) h' w'))
  (hg : ∀ a w, (callFunc g a).run Tryz.prog w = .ok (.enter g a) w) {h : Heap} {w : World} (h0 : S 0 h w) :
  Calls Tryz.prog 268 #[v, .func (.func g) #[] caps.toArray] w (fun e w' => ∃ h' k, e = .returned (.int .i64 (if k < xs.length then (k : Int) else -1)) ∧ k ≤ xs.length ∧ (∀ j, j < k → p j = false) ∧ (k < xs.length → p k = true) ∧ S (if k < xs.length then k + 1 else k) h' w') := by
 refine zP (n := 19) Tryz.func268 X X X<|have hb:=(hS 0 h w h0).2.le;W.sr<|zq X X<|Y<|zj<|W.sr<|zR (v := v) X X<|zaH (hS 0 h w h0).2 X zaa X<|zh X X<|Y<|zG ?_
 refine zax ([4, 5] ++ t_rg 8 11) (G := Nat × Heap) (fun ⟨k, _⟩ => [(8, .int .i64 (k : Int))]) (fun ⟨k, h'⟩ w' => S k h' w' ∧ k ≤ xs.length ∧ ∀ j, j < k → p j = false) (fun ⟨k, _⟩ => xs.length - k) ⟨0, h⟩ ⟨rfl, trivial⟩ ⟨h0, by omega, by intros; omega⟩ ?_
 rintro ⟨k, h1⟩ _ w1 ⟨hS1, hk, hp⟩
 obtain ⟨hsub, hsl⟩ := hS k h1 w1 hS1
 refine W.sr<|zaX X X X<|Y<|zj ?_
 refine zae rfl (fun c1 => ?_) (fun c1 => ?_)
 ·replace c1 := t_ot c1
  refine zy<|O<|zj<|zG<|W.sr<|zh X X<|zq X X<|Y<|W.sr<|zgY X X<|zR (v := v) X X<|zh X X ?_
  have hy : ∃ y, xs[k]? = some y := ⟨_, List.getElem?_eq_getElem (by omega)⟩
  obtain ⟨y, hy⟩ := hy
  obtain ⟨b, o, vs, he, hc, hr⟩ := Sl.elem hsl hy
  refine zU he X X (hk := X) (hu := zaa) (hz := zaT) X<|zr hsub hc X zdU zaT (LVoter.len hr) X ?_
  refine zay rfl rfl (zca (fs := []) (cs := caps) rfl rfl hg rfl) ((hf k y h1 w1 _ hS1 hy hr _ rfl).mono ?_)
  rintro e w2 ⟨h2, rfl, hS2⟩
  refine ⟨_, rfl, ?_⟩
  refine Y ?_
  refine zae rfl (fun c2 => ?_) (fun c2 => ?_)
  ·refine zj ?_
   refine zn<|zh X X<|zq X X<|Y<|zw ?_
   repeat (first | refine zK ?_ | refine zd ?_)
   refine zb Tryz.results268 ?_
   have hlt : k < xs.length := by omega
   exact ⟨h2, k, by rw [if_pos hlt]; rfl, hk, hp, fun _ => c2, by rw [if_pos hlt]; exact hS2⟩
  ·refine zy ?_
   refine zO<|O<|zn ?_
   refine zi rfl rfl (zhs rfl rfl (by omega)) ?_
   refine zh X X<|Y ?_
   refine ⟨⟨k + 1, h2⟩, ⟨rfl, trivial⟩, ?_, ⟨hS2, by omega, ?_⟩, ?_⟩
   ·exact zau
   ·intro j hj
    rcases Nat.lt_or_ge j k with h3 | h3
    ·exact hp j h3
    ·obtain rfl : j = k := by omega
     exact c2
   ·show xs.length - (k + 1) < xs.length - k
    omega
 ·replace c1 := t_of c1
  refine zaI<|zm<|zm<|zam<|O<|W.sr<|zq X X<|Y<|zw<|zb Tryz.results268 ?_
  have hlt : ¬ k < xs.length := by omega
  exact ⟨h1, k, by rw [if_neg hlt]; rfl, hk, hp, fun q => absurd q hlt, by rw [if_neg hlt]; exact hS1⟩

theorem zen {xs : List Voter} {v : Value} {g : FuncId} {caps : List Value} (S : Nat → Heap → World → Prop) (p : Nat → Bool)
  (hS : ∀ k h w, S k h w → Sub h w ∧ Sl LVoter h v xs)
  (hf : ∀ k x h w vs, S k h w → xs[k]? = some x → LVoter.R h vs x → ∀ u, u = .agg vs.toArray → Calls Tryz.prog g (u :: caps).toArray w (fun e w' => ∃ h', e = .returned (.bool (p k)) ∧ S (k + 1) h' w'))
  (hg : ∀ a w, (callFunc g a).run Tryz.prog w = .ok (.enter g a) w) {h : Heap} {w : World} (h0 : S 0 h w) :
  Calls Tryz.prog 266 #[v, .func (.func g) #[] caps.toArray] w (fun e w' => ∃ h' k, e = .returned (.bool (decide (k < xs.length))) ∧ k ≤ xs.length ∧ (∀ j, j < k → p j = false) ∧ (k < xs.length → p k = true) ∧ S (if k < xs.length then k + 1 else k) h' w') := by
 refine zP (n := 9) Tryz.func266 X X X<|W.sr<|zF X X<|Y<|W.sr<|zR (v := v) X X<|zgY X X ?_
 refine zay rfl rfl (zaV rfl Tryz.call268 rfl) ((zeB S p hS hf hg h0).mono ?_)
 rintro e w2 ⟨h2, k, rfl, q1, q2, q3, q4⟩
 refine ⟨_, rfl, ?_⟩
 refine zhq X X X<|zF X X<|Y<|zw<|zb Tryz.results266 ?_
 refine ⟨h2, k, congrArg Ending.returned (zx ?_), q1, q2, q3, q4⟩
 by_cases hlt : k < xs.length
 ·simp [hlt]
 ·simp [hlt]
theorem zeC {xs : List Voter} {v : Value} {g : FuncId} {caps : List Value} {h : Heap} {w : World} (hs : Sub h w) (hx : Sl LVoter h v xs) (q : Voter → Bool)
  (hg : ∀ a w, (callFunc g a).run Tryz.prog w = .ok (.enter g a) w)
  (hf : ∀ x h' w' vs, Le h h' → Sub h' w' → x ∈ xs → LVoter.R h' vs x → ∀ u, u = .agg vs.toArray → Calls Tryz.prog g (u :: caps).toArray w' (Rets h' w' fun _ _ r => r = .bool (q x))) :
  Calls Tryz.prog 266 #[v, .func (.func g) #[] caps.toArray] w (Rets h w fun _ _ r => r = .bool (xs.any q)) := by
 refine (zen (fun k h' w' => St h w h' w' [] ∧ k ≤ xs.length) (fun k => ((xs[k]?).map q).getD false) (fun k h' w' hk => ⟨hk.1.sub, hx.up hk.1.le⟩) ?_ hg ⟨St.start hs, Nat.zero_le _⟩).mono ?_
 ·rintro k x h' w' vs ⟨st, _⟩ hk hr u hu
  refine (hf x h' w' vs st.le st.sub (List.mem_of_getElem? hk) hr u hu).mono ?_
  rintro e w'' ⟨h'', r, rfl, s, rfl⟩
  obtain ⟨hlt, _⟩ := List.getElem?_eq_some_iff.1 hk
  exact ⟨h'', by simp [hk], st.call0 s, hlt⟩
 ·rintro e w' ⟨h', k, rfl, q1, q2, q3, q4⟩
  refine ⟨h', _, rfl, q4.1, zx ?_⟩
  by_cases hlt : k < xs.length
  ·have h3 := q3 hlt
   rw [List.getElem?_eq_getElem hlt] at h3
   simp only [Option.map_some, Option.getD_some] at h3
   have : xs.any q = true := List.any_eq_true.2 ⟨_, List.getElem_mem hlt, h3⟩
   simp [hlt, this]
  ·have : xs.any q = false := by
    rw [List.any_eq_false]
    intro x hx'
    obtain ⟨j, hj⟩ := List.mem_iff_getElem?.1 hx'
    obtain ⟨h5, _⟩ := List.getElem?_eq_some_iff.1 hj
    have := q2 j (by omega)
    simpa [hj] using this
   simp [hlt, this]
end Go.Pk

namespace Go.Pk
open Go Go.RowKit Go.Proofs
theorem c_leaf_in_1 {h : Heap} {w : World} (hs : Sub h w) (n : Int) {lo_b : Nat} {lo : Int} (lo_c : Cells h lo_b 0 [.int .i64 lo]) {hi_b : Nat} {hi : Int} (hi_c : Cells h hi_b 0 [.int .i64 hi]) : Calls Tryz.prog 216 #[.int .i64 n, .pointer (some ⟨lo_b, 0, none⟩), .pointer (some ⟨hi_b, 0, none⟩)] w (Rets h w (fun _ _ res_ => res_ = .bool ((decide (n < lo) || decide (hi < n))))) := by
 refine zP (n := 13) Tryz.func216 X X X<|have st0:=t_s0 hs;W.sr<|zF X X<|Y<|W.sr<|zh X X<|U (j := 0) st0.sub lo_c X X X zz X<|zaX X X X<|zS X X ?_
 refine zY (d := 8) rfl (fun g1 => ?_) (fun g1 => ?_)
 ·
  refine M X X X X X<|M X X X X X<|M X X X X X<|zT (v := (.bool _)) X X X<|zF X X<|Y<|zw<|zb Tryz.results216 ?_
  refine ⟨h, _, rfl, st0.done, ?_⟩
  refine zx ?_
  first | (simp_all; done) | (simp_all; omega)
 refine Z X X X<|zh X X<|Z X X X<|U (j := 0) st0.sub hi_c X X X zz X<|Z X X X<|zdm X X X<|zN (v := (.bool _)) X X X<|zF X X<|Y<|zw<|zb Tryz.results216 ?_
 refine ⟨h, _, rfl, st0.done, ?_⟩
 refine zx ?_
 first | (simp_all; done) | (simp_all; omega)
theorem zfv {h : Heap} {w : World} (hs : Sub h w) (lo : Int) (hi : Int) {all__v : Value} {all_ : (List Int)} (all__f : Sl LInt h all__v all_) : Calls Tryz.prog 164 #[.int .i64 lo, .int .i64 hi, all__v] w (Rets h w (fun _ _ res_ => res_ = .bool (zcK all_ lo hi))) := by
 refine zP (n := 11) Tryz.func164 X X X<|have st0:=t_s0 hs;have all__f_b:=all__f.le;W.sr<|zJ st0 (cs := [.int .i64 lo]) X X X<|fun b1 w2 h3 le4 hc5 st6=>zJ st6 (cs := [.int .i64 hi]) X X X<|fun b7 w8 h9 le10 hc11 st12=>zF X X<|Y<|W.sr<|zR (v := all__v) X X<|zcL X X X ?_
 have l13 := le4.trans le10
 refine ze st12 rfl rfl rfl Tryz.call101 rfl (zdo st12.sub (all__f.up l13) (fun x_ => (decide ((x_) < (lo)) || decide ((hi) < (x_)))) Tryz.call216 (fun x_ h_ w_ vs_ le_ hs_ hx_ hr_ u_ hu_ => by cases hu_; cases hr_; exact c_leaf_in_1 hs_ _ (lo := lo) ((hc5.up le10).up le_) (hi := hi) (hc11.up le_))) ?_
 intro r14 w15 h16 le17 st18 q19
 obtain rfl := q19
 refine zbl X X<|zF X X<|Y<|zw<|zb Tryz.results164 ?_
 refine ⟨h16, _, rfl, st18.done, ?_⟩
 refine zx ?_
 exact inAll_eq all_ lo hi
theorem c_stem_in_1 {h : Heap} {w : World} (hs : Sub h w) (n : Int) {lo_b : Nat} {lo : Int} (lo_c : Cells h lo_b 0 [.int .i64 lo]) {hi_b : Nat} {hi : Int} (hi_c : Cells h hi_b 0 [.int .i64 hi]) : Calls Tryz.prog 183 #[.int .i64 n, .pointer (some ⟨lo_b, 0, none⟩), .pointer (some ⟨hi_b, 0, none⟩)] w (Rets h w (fun _ _ res_ => res_ = .bool ((decide (n < lo) || decide (hi < n))))) := by
 refine zP (n := 13) Tryz.func183 X X X<|have st0:=t_s0 hs;W.sr<|zF X X<|Y<|W.sr<|zh X X<|U (j := 0) st0.sub lo_c X X X zz X<|zaX X X X<|zS X X ?_
 refine zY (d := 8) rfl (fun g1 => ?_) (fun g1 => ?_)
 ·
  refine M X X X X X<|M X X X X X<|M X X X X X<|zT (v := (.bool _)) X X X<|zF X X<|Y<|zw<|zb Tryz.results183 ?_
  refine ⟨h, _, rfl, st0.done, ?_⟩
  refine zx ?_
  first | (simp_all; done) | (simp_all; omega)
 refine Z X X X<|zh X X<|Z X X X<|U (j := 0) st0.sub hi_c X X X zz X<|Z X X X<|zdm X X X<|zN (v := (.bool _)) X X X<|zF X X<|Y<|zw<|zb Tryz.results183 ?_
 refine ⟨h, _, rfl, st0.done, ?_⟩
 refine zx ?_
 first | (simp_all; done) | (simp_all; omega)
theorem ziN {h : Heap} {w : World} (hs : Sub h w) (lo : Int) (hi : Int) {all__v : Value} {all_ : (List Int)} (all__f : Sl LInt h all__v all_) : Calls Tryz.prog 135 #[.int .i64 lo, .int .i64 hi, all__v] w (Rets h w (fun _ _ res_ => res_ = .bool (zcK all_ lo hi))) := by
 refine zP (n := 11) Tryz.func135 X X X<|have st0:=t_s0 hs;have all__f_b:=all__f.le;W.sr<|zJ st0 (cs := [.int .i64 lo]) X X X<|fun b1 w2 h3 le4 hc5 st6=>zJ st6 (cs := [.int .i64 hi]) X X X<|fun b7 w8 h9 le10 hc11 st12=>zF X X<|Y<|W.sr<|zR (v := all__v) X X<|zcL X X X ?_
 have l13 := le4.trans le10
 refine ze st12 rfl rfl rfl Tryz.call101 rfl (zdo st12.sub (all__f.up l13) (fun x_ => (decide ((x_) < (lo)) || decide ((hi) < (x_)))) Tryz.call183 (fun x_ h_ w_ vs_ le_ hs_ hx_ hr_ u_ hu_ => by cases hu_; cases hr_; exact c_stem_in_1 hs_ _ (lo := lo) ((hc5.up le10).up le_) (hi := hi) (hc11.up le_))) ?_
 intro r14 w15 h16 le17 st18 q19
 obtain rfl := q19
 refine zbl X X<|zF X X<|Y<|zw<|zb Tryz.results135 ?_
 refine ⟨h16, _, rfl, st18.done, ?_⟩
 refine zx ?_
 exact inAll_eq all_ lo hi
theorem c_leaf_word_1 {h : Heap} {w : World} (hs : Sub h w) (b : Int) (b_l : 0 ≤ b ∧ b ≤ 255) : Calls Tryz.prog 222 #[.int .u8 b] w (Rets h w (fun _ _ res_ => res_ = .bool ((decide (b < 97) || decide (122 < b))))) := by
 refine zP (n := 9) Tryz.func222 X X X<|have st0:=t_s0 hs;W.sr<|zF X X<|Y<|W.sr<|zh X X<|zaX X X X<|zS X X ?_
 refine zY (d := 5) rfl (fun g1 => ?_) (fun g1 => ?_)
 ·
  refine M X X X X X<|M X X X X X<|zT (v := (.bool _)) X X X<|zF X X<|Y<|zw<|zb Tryz.results222 ?_
  refine ⟨h, _, rfl, st0.done, ?_⟩
  refine zx ?_
  first | (simp_all; done) | (simp_all; omega)
 refine Z X X X<|zh X X<|Z X X X<|zdm X X X<|zN (v := (.bool _)) X X X<|zF X X<|Y<|zw<|zb Tryz.results222 ?_
 refine ⟨h, _, rfl, st0.done, ?_⟩
 refine zx ?_
 first | (simp_all; done) | (simp_all; omega)
theorem c_leaf_word {h : Heap} {w : World} (hs : Sub h w) (s : Str) (s_le : s.length ≤ 281474976710656) : Calls Tryz.prog 178 #[strV s] w (Rets h w (fun _ _ res_ => res_ = .bool (zdA s))) := by
 refine zP (n := 13) Tryz.func178 X X X<|have st0:=t_s0 hs;W.sr<|zF X X<|Y<|W.sr<|zcn X X<|zcx X zaB X<|zac (L := LInt) (xs := [(s.length : Int)]) (cs := [.int .i64 (s.length : Int)]) st0 (Enc.cons (L := LInt) (vs := [.int .i64 (s.length : Int)]) (x := (s.length : Int)) (h := h) (X) Enc.nil) X X X zg Tryz.info3 X X X t_kr<|fun v1 w2 h5 le6 f3 st4=>ze st4 X X X zfB X (zfv st4.sub _ _ f3)<|fun r7 w8 h9 le10 st11 q12=> ?_
 obtain rfl := q12
 refine zS X X ?_
 refine zaw (d := 7) rfl (fun g13 => ?_) (fun g13 => ?_)
 ·
  refine Z X X X<|zcn X X<|Z X X X ?_
  refine OpsL.strBytes st11 (s := s) rfl (by first | assumption | omega | (simp; omega)) rfl zaB Tryz.underlying215 Tryz.underlying5 zbu ?_
  intro v14 w15 h16 le17 f18 st19
  refine Z X X X ?_
  refine ze st19 rfl rfl rfl Tryz.call139 rfl (zeg st19.sub f18 (fun x_ => (decide ((x_) < 97) || decide (122 < (x_)))) Tryz.call222 (fun x_ h_ w_ vs_ le_ hs_ hx_ hr_ u_ hu_ => by cases hu_; obtain ⟨hr1_, hr2_⟩ := hr_; cases hr1_; exact c_leaf_word_1 hs_ _ hr2_)) ?_
  intro r20 w21 h22 le23 st24 q25
  obtain rfl := q25
  refine Z X X X<|zbl X X<|zT (v := (.bool _)) X X X<|zF X X<|Y<|zw<|zb Tryz.results178 ?_
  refine ⟨h22, _, rfl, st24.done, ?_⟩
  refine zx ?_
  simp_all [wordB_eq]
 refine M X X X X X<|M X X X X X<|M X X X X X<|M X X X X X<|zN (v := (.bool _)) X X X<|zF X X<|Y<|zw<|zb Tryz.results178 ?_
 refine ⟨h9, _, rfl, st11.done, ?_⟩
 refine zx ?_
 simp_all [wordB_eq]
theorem c_leaf_Check_1 {h : Heap} {w : World} (hs : Sub h w) (s : Str) (s_le : s.length ≤ 281474976710656) : Calls Tryz.prog 177 #[strV s] w (Rets h w (fun _ _ res_ => res_ = .bool ((!zdA s)))) := by
 refine zP (n := 6) Tryz.func177 X X X<|have st0:=t_s0 hs;W.sr<|zF X X<|Y<|W.sr<|zcn X X<|ze st0 X X X Tryz.call178 X (c_leaf_word st0.sub _ zbr)<|fun r1 w2 h3 le4 st5 q6=> ?_
 obtain rfl := q6
 refine zbl X X<|zF X X<|Y<|zw<|zb Tryz.results177 ?_
 refine ⟨h3, _, rfl, st5.done, ?_⟩
 refine zx ?_
 rfl
theorem c_leaf_Check {h : Heap} {w : World} (hs : Sub h w) {t : Text} {t_v0 : Value} (t_f0 : Sl LChapter h t_v0 t.chapters) : Calls Tryz.prog 131 #[.agg #[t_v0]] w (Rets h w (fun _ _ res_ => res_ = .int .i64 ((if zbm t then 0 else 10)))) := by
 refine zP (n := 64) Tryz.func131 X X X<|have st0:=t_s0 hs;have t_f0_b:=t_f0.le;W.sr<|zJ st0 (cs := [t_v0]) X X X<|fun b1 w2 h3 le4 hc5 st6=>zq X X<|Y<|W.scope<|zj<|W.sr<|E X zaP X zbx X X<|U (j := 0) st6.sub hc5 X X X zbW X<|zaH (t_f0.up le4) X zaK X<|zac (L := LInt) (xs := [(t.chapters.length : Int)]) (cs := [.int .i64 (t.chapters.length : Int)]) st6 (Enc.cons (L := LInt) (vs := [.int .i64 (t.chapters.length : Int)]) (x := (t.chapters.length : Int)) (h := h3) (X) Enc.nil) X X X zg Tryz.info3 X X X t_kr<|fun v7 w8 h11 le12 f9 st10=>ze st10 X X X zfB X (zfv st10.sub _ _ f9)<|fun r13 w14 h15 le16 st17 q18=> ?_
 obtain rfl := q18
 refine zbl X X<|Y ?_
 refine zae rfl (fun c19 => ?_) (fun c19 => ?_)
 ·
  refine W.sr<|zq X X<|Y<|zw<|zd<|zev<|zb zeG ?_
  refine ⟨h15, _, rfl, st17.done, ?_⟩
  refine zah ?_
  simp_all [zbm]
 refine zy<|O<|W.sr<|zq X X<|Y<|W.sr<|zfC (κ := Int) (υ := Bool) (ek := (fun n : Int => .int .i64 n)) (eu := (fun b : Bool => .bool b)) st17 X<|fun v20 o21 w22 f23 st24=> ?_
 obtain ⟨mb25, rfl⟩ := f23.form
 have nd26 : (([] : List (Int × Bool)).map (·.1)).Nodup := by simp
 refine zaf (v := (.map (some mb25))) X X<|Y<|zj<|W.label<|O<|zj<|W.sr<|E X zaP X zbx X X<|U (j := 0) st24.sub (hc5.up (le12.trans le16)) X X X zbW X<|have l27:=(le4.trans le12).trans le16;zaH (t_f0.up l27) X zaK X<|zh X X<|Y<|zG ?_
 refine zax ([2, 3, 6, 8] ++ t_rg 19 44) (G := Nat × List (Int × Bool) × List (Nat × Obj) × Heap) (fun ⟨i, m, o_4, h28⟩ => [(3, .int .i64 0), (19, .int .i64 (i : Int))]) (fun ⟨i, m, o_4, h28⟩ w' => Le h15 h28 ∧ St h w h28 w' [o_4] ∧ (OM (fun n : Int => .int .i64 n) (fun b : Bool => .bool b) (m) o_4 (.map (some mb25))) ∧ (((m).map (·.1)).Nodup) ∧ (i ≤ t.chapters.length) ∧ ((t.chapters.take i).all zbJ = true) ∧ (((t.chapters.take i).map (·.id)).Nodup) ∧ (∀ k, (look m k).getD false = decide (k ∈ (t.chapters.take i).map (·.id)))) (fun ⟨i, m, o_4, h28⟩ => t.chapters.length - i) ⟨0, [], o21, h15⟩ ⟨rfl, rfl, trivial⟩ ⟨Le.refl _, st24, (by have q := f23; exact q), (by have q := nd26; exact q), zaW, zaW, zaW, (by intro k; simp [look])⟩ ?_
 rintro ⟨i, m, o_4, h28⟩ _ w31 ⟨le29, st30, hM_4, hN_4, hi, hA, hN, hm⟩
 refine W.sr<|zaX X X X<|Y<|zj ?_
 refine zC rfl (fun c32 => ?_) (fun c32 => ?_)
 ·
  refine zy<|O<|zj<|zG<|W.sr ?_
  obtain ⟨c, hc⟩ : ∃ y_, (t.chapters)[i]? = some y_ := t_ge (by omega)
  have l37 := l27.trans le29
  obtain ⟨b33, o34, _, he36, hc35, hr_c⟩ := Sl.elem (t_f0.up l37) hc
  obtain ⟨v38, rfl, f39⟩ := hr_c
  have f39_b := f39.le
  refine zU he36 X X (hk := X) (hu := zaK) (hz := zbA) X<|zr st30.sub hc35 X Tryz.isAgg152 zbA X X<|zQ st30 Tryz.zeroValue152 X X<|fun b40 w41 st42=>zI st42 (k := 1) X X X (za X (za f39.one zan)) zbA X X X<|fun w43 st44=> ?_
  obtain ⟨h45, le46, hb47, st49⟩ := st44.freeze (k := 1) rfl
  have hc48 := Cells.of hb47
  refine Y<|zj<|W.sr<|E X zaJ X zl X X<|U (j := 0) st49.sub hc48 X X X zz X<|zac (L := LInt) (xs := [(c.id)]) (cs := [.int .i64 (c.id)]) st49 (Enc.cons (L := LInt) (vs := [.int .i64 (c.id)]) (x := (c.id)) (h := h45) (X) Enc.nil) X X X zg Tryz.info3 X X X t_kr<|fun v50 w51 h54 le55 f52 st53=>ze st53 X X X zfB X (zfv st53.sub _ _ f52)<|fun r56 w57 h58 le59 st60 q61=> ?_
  obtain rfl := q61
  refine zbl X X<|zS X X ?_
  refine zaw (d := 28) rfl (fun g62 => ?_) (fun g62 => ?_)
  ·
   refine M X X X X X<|M X X X X X<|M X X X X X<|M X X X X X<|zT (v := (.bool _)) X X X<|zS X X<|M X X X X X<|M X X X X X<|M X X X X X<|M X X X X X<|M X X X X X<|M X X X X X<|zT (v := (.bool _)) X X X<|Y ?_
   refine zae rfl (fun c63 => ?_) (fun c63 => ?_)
   ·
    refine W.sr<|zq X X<|Y<|zw<|zd<|zK<|zd<|zd<|zK<|zd<|zev<|zb zeG ?_
    refine ⟨h58, _, rfl, st60.done, ?_⟩
    refine zah ?_
    have q0 : zbJ c = false := by
     have q := g62
     simp at q
     simp [zbJ, q]
    have q := zcG (p := zbJ) hc q0
    simp [zbm, q]
   cases c63
  refine Z X X X<|zR (v := (.map (some mb25))) X X<|Z X X X<|E X zaJ X zl X X<|Z X X X<|U (j := 0) st60.sub (hc48.up (le55.trans le59)) X X X zz X<|Z X X X<|zi X X (r_look (k := (c.id)) (zu := false) (zjc zbU) Tryz.underlying207 hM_4 (st60.ent (k := 0) X) zfw X X X)<|zN (v := (.bool _)) X X X<|zS X X ?_
  refine zaw (d := 34) rfl (fun g64 => ?_) (fun g64 => ?_)
  ·
   refine M X X X X X<|M X X X X X<|M X X X X X<|M X X X X X<|M X X X X X<|M X X X X X<|zT (v := (.bool _)) X X X<|Y ?_
   refine zae rfl (fun c65 => ?_) (fun c65 => ?_)
   ·
    refine W.sr<|zq X X<|Y<|zw<|zd<|zK<|zd<|zd<|zK<|zd<|zev<|zb zeG ?_
    refine ⟨h58, _, rfl, st60.done, ?_⟩
    refine zah ?_
    have q0 := g64
    rw [hm] at q0
    have q := zit (f := (·.id)) hc (by simpa using q0)
    simp [zbm, q]
   cases c65
  refine Z X X X<|E X zaJ X zbH X X<|Z X X X<|U (j := 1) st60.sub (hc48.up (le55.trans le59)) X X X zcm X<|Z X X X<|zaH (f39.up ((le46.trans le55).trans le59)) X zaO X<|Z X X X<|zac (L := LInt) (xs := [(c.lines.length : Int)]) (cs := [.int .i64 (c.lines.length : Int)]) st60 (Enc.cons (L := LInt) (vs := [.int .i64 (c.lines.length : Int)]) (x := (c.lines.length : Int)) (h := h58) (X) Enc.nil) X X X zg Tryz.info3 X X X t_kr<|fun v66 w67 h70 le71 f68 st69=>Z X X X<|ze st69 X X X zfB X (zfv st69.sub _ _ f68)<|fun r72 w73 h74 le75 st76 q77=> ?_
  obtain rfl := q77
  refine Z X X X<|zbl X X<|zN (v := (.bool _)) X X X<|Y ?_
  refine zae rfl (fun c78 => ?_) (fun c78 => ?_)
  ·
   refine W.sr<|zq X X<|Y<|zw<|zd<|zK<|zd<|zd<|zK<|zd<|zev<|zb zeG ?_
   refine ⟨h74, _, rfl, st76.done, ?_⟩
   refine zah ?_
   have q0 : zbJ c = false := by
    have q := c78
    simp at q
    simp [zbJ, q]
   have q := zcG (p := zbJ) hc q0
   simp [zbm, q]
  refine zy<|O<|W.sr<|zR (v := (.map (some mb25))) X X<|E X zaJ X zl X X<|have l79:=((le55.trans le59).trans le71).trans le75;U (j := 0) st76.sub (hc48.up l79) X X X zz X<|zeu (i := 0) st76 hM_4 X hN_4 (zjc zbU) Tryz.underlying207 X (k := (c.id)) X (u := true) X<|fun o80 w81 _ e82 f83 nd84 st85=> ?_
  subst e82
  refine Y<|W.sr<|E X zaJ X zbH X X<|U (j := 1) st85.sub (hc48.up l79) X X X zcm X<|have l86:=(((le46.trans le55).trans le59).trans le71).trans le75;zaH (f39.up l86) X zaO X<|zh X X<|Y<|zG ?_
  refine zax ([3, 8] ++ t_rg 48 14) (G := Nat × List (Nat × Obj) × Heap) (fun ⟨k2, o_4, h87⟩ => [(3, .int .i64 0), (48, .int .i64 (k2 : Int))]) (fun ⟨k2, o_4, h87⟩ w' => Le h74 h87 ∧ St h w h87 w' [o_4, []] ∧ (OM (fun n : Int => .int .i64 n) (fun b : Bool => .bool b) (putM m c.id true) o_4 (.map (some mb25))) ∧ (((putM m c.id true).map (·.1)).Nodup) ∧ (k2 ≤ c.lines.length) ∧ ((c.lines.take k2).all zgs = true)) (fun ⟨k2, o_4, h87⟩ => c.lines.length - k2) ⟨0, o80, h74⟩ ⟨rfl, rfl, trivial⟩ ⟨Le.refl _, st85, (by have q := f83; exact q), (by have q := nd84; exact q), zaW, zaW⟩ ?_
  rintro ⟨k2, o_4, h87⟩ _ w90 ⟨le88, st89, hM_4, hN_4, hk2, hl⟩
  refine W.sr<|zaX X X X<|Y<|zj ?_
  refine zC rfl (fun c91 => ?_) (fun c91 => ?_)
  ·
   refine zy<|O<|zj<|zG<|W.sr ?_
   obtain ⟨ln, hln⟩ : ∃ y_, (c.lines)[k2]? = some y_ := t_ge (by omega)
   obtain ⟨b92, o93, _, he95, hc94, hr_ln⟩ := Sl.elem (f39.up (l86.trans le88)) hln
   obtain ⟨v96, rfl, f97⟩ := hr_ln
   have f97_b := f97.le
   refine zU he95 X X (hk := X) (hu := zaO) (hz := zdK) X<|U (j := 0) st89.sub hc94 X X X zee X<|zaf (v := v96) X X<|Y<|W.sr<|zR (v := v96) X X<|zaH f97 X zV X<|zac (L := LInt) (xs := [(ln.length : Int)]) (cs := [.int .i64 (ln.length : Int)]) st89 (Enc.cons (L := LInt) (vs := [.int .i64 (ln.length : Int)]) (x := (ln.length : Int)) (h := h87) (X) Enc.nil) X X X zg Tryz.info3 X X X t_kr<|fun v98 w99 h102 le103 f100 st101=>ze st101 X X X zfB X (zfv st101.sub _ _ f100)<|fun r104 w105 h106 le107 st108 q109=> ?_
   obtain rfl := q109
   refine zbl X X<|zS X X ?_
   refine zaw (d := 57) rfl (fun g110 => ?_) (fun g110 => ?_)
   ·
    refine M X X X X X<|M X X X X X<|zT (v := (.bool _)) X X X<|Y ?_
    refine zae rfl (fun c111 => ?_) (fun c111 => ?_)
    ·
     refine W.sr<|zq X X<|Y<|zaI<|zhn X<|zm<|zm<|zhn X<|zhn X<|zm<|zm<|zam<|O<|W.sr<|zh X X<|zq X X<|Y<|zw<|zev<|zb zeG ?_
     refine ⟨h106, _, rfl, st108.done, ?_⟩
     refine zah ?_
     have q1 : zgs ln = false := by
      have q := g110
      simp at q
      simp [zgs, q]
     have q2 := zcG (p := zgs) hln q1
     have q0 : zbJ c = false := by simp [zbJ, q2]
     have q := zcG (p := zbJ) hc q0
     simp [zbm, q]
    cases c111
   refine Z X X X<|zR (v := v96) X X<|Z X X X ?_
   refine ze st108 rfl rfl rfl Tryz.call176 rfl (zfH st108.sub (f97.up (le103.trans le107)) (fun x_ => (!zdA (x_))) Tryz.call177 (fun x_ h_ w_ vs_ le_ hs_ hx_ hr_ u_ hu_ => by cases hu_; obtain ⟨hr1_, hr2_⟩ := hr_; cases hr1_; simp only [big] at hr2_; exact c_leaf_Check_1 hs_ _ hr2_)) ?_
   intro r112 w113 h114 le115 st116 q117
   obtain rfl := q117
   refine zN (v := (.bool _)) X X X<|Y ?_
   refine zae rfl (fun c118 => ?_) (fun c118 => ?_)
   ·
    refine W.sr<|zq X X<|Y<|zaI<|zhn X<|zm<|zm<|zhn X<|zhn X<|zm<|zm<|zam<|O<|W.sr<|zh X X<|zq X X<|Y<|zw<|zev<|zb zeG ?_
    refine ⟨h114, _, rfl, st116.done, ?_⟩
    refine zah ?_
    have q1 : zgs ln = false := by
     have q := c118
     rw [any_not] at q
     simp only [zgs, Bool.and_eq_false_iff]
     right; simpa using q
    have q2 := zcG (p := zgs) hln q1
    have q0 : zbJ c = false := by simp [zbJ, q2]
    have q := zcG (p := zbJ) hc q0
    simp [zbm, q]
   refine zy<|zO<|O<|zn<|zaM X X t_om X<|zh X X<|Y ?_
   have l119 := ((le88.trans le103).trans le107).trans le115
   refine ⟨⟨k2 + 1, o_4, h114⟩, ⟨rfl, rfl, trivial⟩, ?_, ⟨l119, st116, ?_, ?_, ?_, ?_⟩, ?_⟩
   ·exact zau
   ·have q := hM_4
    exact q
   ·have q := hN_4
    exact q
   ·first | omega | (simp; omega)
   ·exact zct hl hln (by simp_all [zgs])
   show c.lines.length - ((k2 + 1)) < c.lines.length - k2
   omega
  refine zaI<|zm<|zm<|zam<|zO<|O<|zn<|zaM X X t_om X<|zh X X<|Y ?_
  have HCH : zbJ c = true := by
   have q := zcX hl (by omega)
   simp_all [zbJ]
  have HD : (look m c.id).getD false = false := by simp_all
  have l120 := (((((le29.trans le46).trans le55).trans le59).trans le71).trans le75).trans le88
  refine ⟨⟨i + 1, putM m c.id true, o_4, h87⟩, ⟨rfl, rfl, trivial⟩, ?_, ⟨l120, st89.take 1, ?_, ?_, ?_, ?_, ?_, ?_⟩, ?_⟩
  ·exact zau
  ·have q := hM_4
   exact q
  ·have q := hN_4
   exact q
  ·first | omega | (simp; omega)
  ·exact zct hA hc HCH
  ·rw [zbf hc, List.map_append, List.nodup_append]
   refine ⟨hN, by simp, ?_⟩
   intro a ha b hb e
   simp only [List.map_cons, List.map_nil, List.mem_singleton] at hb
   subst hb
   subst e
   rw [hm] at HD
   exact absurd ha (by simpa using HD)
  ·intro k
   rw [ziI, zbf hc, List.map_append]
   by_cases e : k = c.id
   ·simp [e]
   ·simp only [if_neg e, hm]
    simp [e]
  show t.chapters.length - ((i + 1)) < t.chapters.length - i
  omega
 refine zaI<|zm<|zm<|zam<|O<|W.sr<|zh X X<|zq X X<|Y<|zw<|zev<|zb zeG ?_
 refine ⟨h28, _, rfl, st30.done, ?_⟩
 refine zah ?_
 have q := zcX hA (by omega)
 have q2 : t.chapters.take i = t.chapters := List.take_of_length_le (by omega)
 rw [q2] at hN
 simp_all [zbm]
end Go.Pk

namespace Go.Pk
open Go Go.RowKit Go.Proofs
theorem ziO {h : Heap} {w : World} (hs : Sub h w) {a_v : Value} {a : (List Str)} (a_f : Sl LStr h a_v a) {b_v : Value} {b : (List Str)} (b_f : Sl LStr h b_v b) : Calls Tryz.prog 32 #[a_v, b_v] w (Rets h w (fun _ _ res_ => res_ = .bool (decide (a = b)))) := by
 refine zP (n := 26) Tryz.func32 X X X<|have st0:=t_s0 hs;have a_f_b:=a_f.le;have b_f_b:=b_f.le;W.sr<|zF X X<|Y<|zj<|W.sr<|zR (v := a_v) X X<|zaH a_f X zV X<|zR (v := b_v) X X<|zaH b_f X zV X<|zcf X X X<|Y ?_
 refine zC rfl (fun c1 => ?_) (fun c1 => ?_)
 ·
  refine W.sr<|zF X X<|Y<|zw<|zd<|zb Tryz.results32 ?_
  refine ⟨h, _, rfl, st0.done, ?_⟩
  refine zx ?_
  have q : a ≠ b := by
   rintro rfl
   simp_all
  simp [q]
 refine zy<|O<|zj<|W.sr<|zq X X<|Y<|zG ?_
 refine zax ([4, 5] ++ t_rg 11 15) (G := Nat × Heap) (fun ⟨k, h2⟩ => [(5, .int .i64 (k : Int))]) (fun ⟨k, h2⟩ w' => Le h h2 ∧ St h w h2 w' [] ∧ (k ≤ a.length) ∧ (a.take k = b.take k)) (fun ⟨k, h2⟩ => a.length - k) ⟨0, h⟩ ⟨rfl, trivial⟩ ⟨Le.refl _, st0, zaW, zaW⟩ ?_
 rintro ⟨k, h2⟩ _ w5 ⟨le3, st4, hk, he⟩
 refine zj<|W.sr<|zh X X<|zR (v := a_v) X X<|zaH (a_f.up le3) X zV X<|zaX X X X<|Y ?_
 refine zC rfl (fun c6 => ?_) (fun c6 => ?_)
 ·
  refine zy<|O<|zj<|zG<|zj<|zbX Tryz.mixed t_kr (Cls h2 _) (Cls.drew st4)<|zfU (v := a_v) X X<|zde X X ?_
  obtain ⟨x, hx⟩ : ∃ y_, (a)[k]? = some y_ := t_ge (by omega)
  obtain ⟨b7, o8, _, he10, hc9, hr_x⟩ := Sl.elem (a_f.up le3) hx
  obtain ⟨rfl, ls11⟩ := hr_x
  simp only [big] at ls11
  refine zbZ he10 X X (hk := X) (hu := zV) (hz := zak) X<|zH X X (fun _ hC => (zf (j := 0) hC.sub hc9 X X X zaD))<|zfU (v := b_v) X X<|zde X X ?_
  obtain ⟨y, hy⟩ : ∃ y_, (b)[k]? = some y_ := t_ge (by omega)
  obtain ⟨b12, o13, _, he15, hc14, hr_y⟩ := Sl.elem (b_f.up le3) hy
  obtain ⟨rfl, ls16⟩ := hr_y
  simp only [big] at ls16
  refine zbZ he15 X X (hk := X) (hu := zV) (hz := zak) X<|zH X X (fun _ hC => (zf (j := 0) hC.sub hc14 X X X zaD))<|zH X X (fun _ _ => (r_sneq X X))<|zbC ?_
  rintro w17 ⟨h18, s19⟩
  have st20 := st4.call0 s19
  refine O ?_
  refine zC rfl (fun c21 => ?_) (fun c21 => ?_)
  ·
   refine W.sr<|zF X X<|Y<|zw<|zK<|zd<|zd<|zK<|zd<|zb Tryz.results32 ?_
   refine ⟨h18, _, rfl, st20.done, ?_⟩
   refine zx ?_
   have q := ne_of_get hx hy (by simpa using c21)
   simp [q]
  refine zy<|zO<|O<|zn<|zh X X<|zaM X X t_om X<|zq X X<|Y ?_
  have l22 := le3.trans s19.le
  refine ⟨⟨k + 1, h18⟩, ⟨rfl, trivial⟩, ?_, ⟨l22, st20, ?_, ?_⟩, ?_⟩
  ·exact zau
  ·first | omega | (simp; omega)
  ·exact zhB he hx hy (by simpa using c21)
  show a.length - ((k + 1)) < a.length - k
  omega
 refine zaI<|zm<|zm<|zam<|O<|W.sr<|zF X X<|Y<|zw<|zb Tryz.results32 ?_
 refine ⟨h2, _, rfl, st4.done, ?_⟩
 refine zx ?_
 have q := zje he (by omega) (by omega)
 simp [q]
theorem zck {h : Heap} {w : World} (hs : Sub h w) {a_v : Value} {a : (List Int)} (a_f : Sl LInt h a_v a) {b_v : Value} {b : (List Int)} (b_f : Sl LInt h b_v b) : Calls Tryz.prog 21 #[a_v, b_v] w (Rets h w (fun _ _ res_ => res_ = .bool (decide (a = b)))) := by
 refine zP (n := 26) Tryz.func21 X X X<|have st0:=t_s0 hs;have a_f_b:=a_f.le;have b_f_b:=b_f.le;W.sr<|zF X X<|Y<|zj<|W.sr<|zR (v := a_v) X X<|zaH a_f X zg X<|zR (v := b_v) X X<|zaH b_f X zg X<|zcf X X X<|Y ?_
 refine zC rfl (fun c1 => ?_) (fun c1 => ?_)
 ·
  refine W.sr<|zF X X<|Y<|zw<|zd<|zb Tryz.results21 ?_
  refine ⟨h, _, rfl, st0.done, ?_⟩
  refine zx ?_
  have q : a ≠ b := by
   rintro rfl
   simp_all
  simp [q]
 refine zy<|O<|zj<|W.sr<|zq X X<|Y<|zG ?_
 refine zax ([4, 5] ++ t_rg 11 15) (G := Nat × Heap) (fun ⟨k, h2⟩ => [(5, .int .i64 (k : Int))]) (fun ⟨k, h2⟩ w' => Le h h2 ∧ St h w h2 w' [] ∧ (k ≤ a.length) ∧ (a.take k = b.take k)) (fun ⟨k, h2⟩ => a.length - k) ⟨0, h⟩ ⟨rfl, trivial⟩ ⟨Le.refl _, st0, zaW, zaW⟩ ?_
 rintro ⟨k, h2⟩ _ w5 ⟨le3, st4, hk, he⟩
 refine zj<|W.sr<|zh X X<|zR (v := a_v) X X<|zaH (a_f.up le3) X zg X<|zaX X X X<|Y ?_
 refine zC rfl (fun c6 => ?_) (fun c6 => ?_)
 ·
  refine zy<|O<|zj<|zG<|zj<|zbX Tryz.mixed t_kr (Cls h2 _) (Cls.drew st4)<|zfU (v := a_v) X X<|zde X X ?_
  obtain ⟨x, hx⟩ : ∃ y_, (a)[k]? = some y_ := t_ge (by omega)
  obtain ⟨b7, o8, _, he10, hc9, hr_x⟩ := Sl.elem (a_f.up le3) hx
  obtain rfl := hr_x
  refine zbZ he10 X X (hk := X) (hu := zg) (hz := zl) X<|zH X X (fun _ hC => (zf (j := 0) hC.sub hc9 X X X zz))<|zfU (v := b_v) X X<|zde X X ?_
  obtain ⟨y, hy⟩ : ∃ y_, (b)[k]? = some y_ := t_ge (by omega)
  obtain ⟨b11, o12, _, he14, hc13, hr_y⟩ := Sl.elem (b_f.up le3) hy
  obtain rfl := hr_y
  refine zbZ he14 X X (hk := X) (hu := zg) (hz := zl) X<|zH X X (fun _ hC => (zf (j := 0) hC.sub hc13 X X X zz))<|u_neq X X X<|zbC ?_
  rintro w15 ⟨h16, s17⟩
  have st18 := st4.call0 s17
  refine O ?_
  refine zC rfl (fun c19 => ?_) (fun c19 => ?_)
  ·
   refine W.sr<|zF X X<|Y<|zw<|zK<|zd<|zd<|zK<|zd<|zb Tryz.results21 ?_
   refine ⟨h16, _, rfl, st18.done, ?_⟩
   refine zx ?_
   have q := ne_of_get hx hy (by simpa using c19)
   simp [q]
  refine zy<|zO<|O<|zn<|zh X X<|zaM X X t_om X<|zq X X<|Y ?_
  have l20 := le3.trans s17.le
  refine ⟨⟨k + 1, h16⟩, ⟨rfl, trivial⟩, ?_, ⟨l20, st18, ?_, ?_⟩, ?_⟩
  ·exact zau
  ·first | omega | (simp; omega)
  ·exact zhB he hx hy (by simpa using c19)
  show a.length - ((k + 1)) < a.length - k
  omega
 refine zaI<|zm<|zm<|zam<|O<|W.sr<|zF X X<|Y<|zw<|zb Tryz.results21 ?_
 refine ⟨h2, _, rfl, st4.done, ?_⟩
 refine zx ?_
 have q := zje he (by omega) (by omega)
 simp [q]
theorem c_postilref04_Same {h : Heap} {w : World} (hs : Sub h w) {a : Lexicon} {a_v0 : Value} (a_f0 : Sl LRule h a_v0 a.rules) {a_v1 : Value} (a_f1 : Sl LDecision h a_v1 a.decisions) {b : Lexicon} {b_v0 : Value} (b_f0 : Sl LRule h b_v0 b.rules) {b_v1 : Value} (b_f1 : Sl LDecision h b_v1 b.decisions) : Calls Tryz.prog 31 #[.agg #[a_v0, a_v1], .agg #[b_v0, b_v1]] w (Rets h w (fun _ _ res_ => res_ = .bool (decide (a = b)))) := by
 refine zP (n := 59) Tryz.func31 X X X<|have st0:=t_s0 hs;have a_f0_b:=a_f0.le;have a_f1_b:=a_f1.le;have b_f0_b:=b_f0.le;have b_f1_b:=b_f1.le;W.sr<|zJ st0 (cs := [a_v0, a_v1]) X X X<|fun b1 w2 h3 le4 hc5 st6=>zJ st6 (cs := [b_v0, b_v1]) X X X<|fun b7 w8 h9 le10 hc11 st12=>zF X X<|Y<|zj<|W.sr<|E X zag X zcq X X<|U (j := 0) st12.sub (hc5.up le10) X X X zcZ X<|have l13:=le4.trans le10;zaH (a_f0.up l13) X zbd X<|E X zag X zcq X X<|U (j := 0) st12.sub hc11 X X X zcZ X<|zaH (b_f0.up l13) X zbd X<|zcf X X X<|zS X X ?_
 refine zY (d := 14) rfl (fun g14 => ?_) (fun g14 => ?_)
 ·
  refine M X X X X X<|M X X X X X<|M X X X X X<|M X X X X X<|M X X X X X<|M X X X X X<|M X X X X X<|zT (v := (.bool _)) X X X<|Y ?_
  refine zae rfl (fun c15 => ?_) (fun c15 => ?_)
  ·
   refine W.sr<|zF X X<|Y<|zw<|zd<|zb Tryz.results31 ?_
   refine ⟨h9, _, rfl, st12.done, ?_⟩
   refine zx ?_
   have q : a ≠ b := by
    rintro rfl
    simp_all
   simp [q]
  cases c15
 refine Z X X X<|E X zag X zbN X X<|Z X X X<|U (j := 1) st12.sub (hc5.up le10) X X X zcr X<|Z X X X<|zaH (a_f1.up l13) X zaG X<|Z X X X<|E X zag X zbN X X<|Z X X X<|U (j := 1) st12.sub hc11 X X X zcr X<|Z X X X<|zaH (b_f1.up l13) X zaG X<|Z X X X<|zcf X X X<|zN (v := (.bool _)) X X X<|Y ?_
 refine zC rfl (fun c16 => ?_) (fun c16 => ?_)
 ·
  refine W.sr<|zF X X<|Y<|zw<|zd<|zb Tryz.results31 ?_
  refine ⟨h9, _, rfl, st12.done, ?_⟩
  refine zx ?_
  have q : a ≠ b := by
   rintro rfl
   simp_all
  simp [q]
 refine zy<|O<|zj<|W.sr<|zq X X<|Y<|zG ?_
 refine zax ([4, 5] ++ t_rg 23 18) (G := Nat × Heap) (fun ⟨i, h17⟩ => [(5, .int .i64 (i : Int))]) (fun ⟨i, h17⟩ w' => Le h9 h17 ∧ St h w h17 w' [] ∧ (i ≤ a.rules.length) ∧ (a.rules.take i = b.rules.take i)) (fun ⟨i, h17⟩ => a.rules.length - i) ⟨0, h9⟩ ⟨rfl, trivial⟩ ⟨Le.refl _, st12, zaW, zaW⟩ ?_
 rintro ⟨i, h17⟩ _ w20 ⟨le18, st19, hi, he⟩
 refine zj<|W.sr<|zh X X<|E X zag X zcq X X<|U (j := 0) st19.sub (hc5.up (le10.trans le18)) X X X zcZ X<|have l21:=l13.trans le18;zaH (a_f0.up l21) X zbd X<|zaX X X X<|Y ?_
 refine zC rfl (fun c22 => ?_) (fun c22 => ?_)
 ·
  refine zy<|O<|zj<|zG<|zj<|zbX Tryz.mixed t_kr (Cls h17 _) (Cls.drew st19)<|zZ X zag X zcq X X<|zH X X (fun _ hC => (zf (j := 0) hC.sub (hc5.up (le10.trans le18)) X X X zcZ))<|zde X X ?_
  obtain ⟨r, hr⟩ : ∃ y_, (a.rules)[i]? = some y_ := t_ge (by omega)
  obtain ⟨b23, o24, _, he26, hc25, hr_r⟩ := Sl.elem (a_f0.up l21) hr
  obtain ⟨rfl, ls27, ls28⟩ := hr_r
  simp only [big] at ls27
  simp only [big] at ls28
  refine zbZ he26 X X (hk := X) (hu := zbd) (hz := zcV) X<|zH X X (fun _ hC => (zat hC.sub hc25 X Tryz.isAgg68 zcV X))<|zZ X zag X zcq X X<|zH X X (fun _ hC => (zf (j := 0) hC.sub (hc11.up le18) X X X zcZ))<|zde X X ?_
  obtain ⟨r2, hr2⟩ : ∃ y_, (b.rules)[i]? = some y_ := t_ge (by omega)
  obtain ⟨b29, o30, _, he32, hc31, hr_r2⟩ := Sl.elem (b_f0.up l21) hr2
  obtain ⟨rfl, ls33, ls34⟩ := hr_r2
  simp only [big] at ls33
  simp only [big] at ls34
  refine zbZ he32 X X (hk := X) (hu := zbd) (hz := zcV) X<|zH X X (fun _ hC => (zat hC.sub hc31 X Tryz.isAgg68 zcV X))<|zH X X (fun _ _ => (r_stneq X X Tryz.eqGuardType68 (Tryz.eq_Rule r r2)))<|zbC ?_
  rintro w35 ⟨h36, s37⟩
  have st38 := st19.call0 s37
  refine O ?_
  refine zC rfl (fun c39 => ?_) (fun c39 => ?_)
  ·
   refine W.sr<|zF X X<|Y<|zw<|zK<|zd<|zd<|zK<|zd<|zb Tryz.results31 ?_
   refine ⟨h36, _, rfl, st38.done, ?_⟩
   refine zx ?_
   have q : a ≠ b := fun e => ne_of_get hr hr2 (by simpa using c39) (by rw [e])
   simp [q]
  refine zy<|zO<|O<|zn<|zh X X<|zaM X X t_om X<|zq X X<|Y ?_
  refine ⟨⟨i + 1, h36⟩, ⟨rfl, trivial⟩, ?_, ⟨(le18.trans s37.le), st38, ?_, ?_⟩, ?_⟩
  ·exact zau
  ·first | omega | (simp; omega)
  ·exact zhB he hr hr2 (by simpa using c39)
  show a.rules.length - ((i + 1)) < a.rules.length - i
  omega
 refine zaI<|zm<|zm<|zam<|O<|zj<|W.sr<|zq X X<|Y<|zG ?_
 refine zax ([4, 6] ++ t_rg 41 18) (G := Nat × Heap) (fun ⟨k, h40⟩ => [(6, .int .i64 (k : Int))]) (fun ⟨k, h40⟩ w' => Le h17 h40 ∧ St h w h40 w' [] ∧ (k ≤ a.decisions.length) ∧ (a.decisions.take k = b.decisions.take k)) (fun ⟨k, h40⟩ => a.decisions.length - k) ⟨0, h17⟩ ⟨rfl, trivial⟩ ⟨Le.refl _, st19, zaW, zaW⟩ ?_
 rintro ⟨k, h40⟩ _ w43 ⟨le41, st42, hk, hf⟩
 refine zj<|W.sr<|zh X X<|E X zag X zbN X X<|U (j := 1) st42.sub (hc5.up ((le10.trans le18).trans le41)) X X X zcr X<|have l44:=l21.trans le41;zaH (a_f1.up l44) X zaG X<|zaX X X X<|Y ?_
 refine zC rfl (fun c45 => ?_) (fun c45 => ?_)
 ·
  refine zy<|O<|zj<|zG<|zj<|zbX Tryz.mixed t_kr (Cls h40 _) (Cls.drew st42)<|zZ X zag X zbN X X<|zH X X (fun _ hC => (zf (j := 1) hC.sub (hc5.up ((le10.trans le18).trans le41)) X X X zcr))<|zde X X ?_
  obtain ⟨d, hd⟩ : ∃ y_, (a.decisions)[k]? = some y_ := t_ge (by omega)
  obtain ⟨b46, o47, _, he49, hc48, hr_d⟩ := Sl.elem (a_f1.up l44) hd
  obtain ⟨rfl, lu50, ls51, ls52, lu53⟩ := hr_d
  simp only [big] at ls51
  simp only [big] at ls52
  refine zbZ he49 X X (hk := X) (hu := zaG) (hz := zX) X<|zH X X (fun _ hC => (zat hC.sub hc48 X zaY zX X))<|zZ X zag X zbN X X<|zH X X (fun _ hC => (zf (j := 1) hC.sub (hc11.up (le18.trans le41)) X X X zcr))<|zde X X ?_
  obtain ⟨d2, hd2⟩ : ∃ y_, (b.decisions)[k]? = some y_ := t_ge (by omega)
  obtain ⟨b54, o55, _, he57, hc56, hr_d2⟩ := Sl.elem (b_f1.up l44) hd2
  obtain ⟨rfl, lu58, ls59, ls60, lu61⟩ := hr_d2
  simp only [big] at ls59
  simp only [big] at ls60
  refine zbZ he57 X X (hk := X) (hu := zaG) (hz := zX) X<|zH X X (fun _ hC => (zat hC.sub hc56 X zaY zX X))<|zH X X (fun _ _ => (r_stneq X X zeM (Tryz.eq_Decision d d2)))<|zbC ?_
  rintro w62 ⟨h63, s64⟩
  have st65 := st42.call0 s64
  refine O ?_
  refine zC rfl (fun c66 => ?_) (fun c66 => ?_)
  ·
   refine W.sr<|zF X X<|Y<|zw<|zK<|zd<|zd<|zK<|zd<|zb Tryz.results31 ?_
   refine ⟨h63, _, rfl, st65.done, ?_⟩
   refine zx ?_
   have q : a ≠ b := fun e => ne_of_get hd hd2 (by simpa using c66) (by rw [e])
   simp [q]
  refine zy<|zO<|O<|zn<|zh X X<|zaM X X t_om X<|zq X X<|Y ?_
  refine ⟨⟨k + 1, h63⟩, ⟨rfl, trivial⟩, ?_, ⟨(le41.trans s64.le), st65, ?_, ?_⟩, ?_⟩
  ·exact zau
  ·first | omega | (simp; omega)
  ·exact zhB hf hd hd2 (by simpa using c66)
  show a.decisions.length - ((k + 1)) < a.decisions.length - k
  omega
 refine zaI<|zm<|zm<|zam<|O<|W.sr<|zF X X<|Y<|zw<|zb Tryz.results31 ?_
 refine ⟨h40, _, rfl, st42.done, ?_⟩
 refine zx ?_
 have q1 := zje he (by omega) (by omega)
 have q2 := zje hf (by omega) (by omega)
 rcases a with ⟨a1, a2⟩; rcases b with ⟨b1, b2⟩
 simp_all
end Go.Pk

namespace Go.Pk
open Go Go.RowKit Go.Proofs
theorem c_leaf_open {h : Heap} {w : World} (hs : Sub h w) {t : Text} {t_v0 : Value} (t_f0 : Sl LChapter h t_v0 t.chapters) : Calls Tryz.prog 162 #[.agg #[t_v0]] w (Rets h w (fun h' _ res_ => ∃ u0, res_ = .tuple #[u0, .int .i64 ((if zbm t then 0 else 10))] ∧ Box LText h' (zbm t) t u0)) := by
 refine zP (n := 13) Tryz.func162 X X X<|have st0:=t_s0 hs;have t_f0_b:=t_f0.le;W.sr<|zJ st0 (cs := [t_v0]) X X X<|fun b1 w2 h3 le4 hc5 st6=>zaf X X<|zq X X<|Y<|zj<|W.sr<|zr st6.sub hc5 X zbk zaA X X<|ze st6 X X X Tryz.call131 X (c_leaf_Check st6.sub (t := t) (t_f0.up le4))<|fun r7 w8 h9 le10 st11 q12=> ?_
 obtain rfl := q12
 refine zq X X<|Y<|W.sr<|zh X X<|zcf X X X<|Y ?_
 refine zC rfl (fun c13 => ?_) (fun c13 => ?_)
 ·
  refine W.sr<|zh X X<|zaf X X<|zq X X<|Y<|zw<|zd<|zbb Tryz.results162 ?_
  refine ⟨h9, _, rfl, st11.done, ?_⟩
  refine ⟨_, tup2 rfl (zah ?_), Box.nil ?_⟩
  ·simp_all
  simp_all
 refine zy<|O<|W.sr<|zr st11.sub (hc5.up le10) X zbk zaA X X ?_
 refine zi rfl rfl (zbq (cs := [t_v0]) (by obtain ⟨_, _, rfl⟩ := Sl.form t_f0; kernel_rfl)) ?_
 refine zJ st11 (cs := [t_v0]) X X X<|fun b14 w15 h16 le17 hc18 st19=>v_asP X X<|zq X X<|Y<|zw<|zbb Tryz.results162 ?_
 refine ⟨h16, _, rfl, st19.done, ?_⟩
 refine ⟨_, tup2 rfl (zah ?_), Box.some ?_ hc18 ⟨_, rfl, (t_f0.up ((le4.trans le10).trans le17))⟩⟩
 ·simp_all
 simp_all
theorem ziQ {h : Heap} {w : World} (hs : Sub h w) {t_b : Nat} {t : Text} {t_v0 : Value} (t_f0 : Sl LChapter h t_v0 t.chapters) (t_c : Cells h t_b 0 [t_v0]) {p : Place} : Calls Tryz.prog 122 #[.pointer (some ⟨t_b, 0, none⟩), .agg #[.int .i64 p.chapter, .int .i64 p.line, .int .i64 p.word]] w (Rets h w (fun h' _ res_ => ∃ u0, res_ = u0 ∧ Sl LStr h' u0 ((zcT t p).getD []))) := by
 refine zP (n := 50) Tryz.func122 X X X<|have st0:=t_s0 hs;have t_f0_b:=t_f0.le;W.sr<|zJ st0 (cs := [.int .i64 (p.chapter), .int .i64 (p.line), .int .i64 (p.word)]) X X X<|fun b1 w2 h3 le4 hc5 st6=>zcM X X<|Y<|zj<|zj ?_
 rcases Bool.eq_false_or_eq_true ((!(zcK (([(p.chapter)])) (0) (((t.chapters.length : Int) - 1))))) with g7 | g7
 ·
  have g7_r := g7
  refine zbg (er := ([], [], [], [], 0)) (dsts := [5, 6, 7, 8, 9, 10, 11, 12, 13, 14, 15, 16, 17, 18, 19, 20, 21, 22, 23, 24, 25, 26, 27, 28, 29, 30, 31, 32, 33, 34, 35]) st6 Tryz.mixed<|zc 0 [] X t_kr t_kr X X (fun hD wD τD hL hS hO  => (r_mvP X))<|zc 1 [0] X t_kr t_kr X X (fun hD wD τD hL hS hO _ _ => (zdw X))<|zc 2 [0] X t_kr t_kr X X (fun hD wD τD hL hS hO _ _ => (zB X Tryz.underlying240 X zaA X))<|zc 3 [0] X t_kr t_kr X X (fun hD wD τD hL hS hO _ _ => (zB X zaP X zbx X))<|zc 4 [0] X t_kr t_kr X X (fun hD wD τD hL hS hO _ _ => (zf (j := 0) (hL.sub hS) (t_c.up le4) X X X zbW))<|zc 5 [0] X t_kr t_kr X X (fun hD wD τD hL hS hO _ _ => (zhS (t_f0.up le4) X zaK))<|zc 6 [0] X t_kr t_kr X X (fun hD wD τD hL hS hO _ _ => (ziF X X t_om))<|zc 7 [] X t_kr t_kr X X (fun hD wD τD hL hS hO  => (zB X zao X zl X))<|zc 8 [0] X t_kr t_kr X X (fun hD wD τD hL hS hO _ _ => (zf (j := 0) (hL.sub hS) hc5 X X X zz)) ?_
  refine zas 9 (.res (fun h' res_ => Sl LInt h' res_ ([(p.chapter)])) (fun _ _ _ hl f => f.up hl)) [0] rfl t_kr t_kr ?_ ?_
  ·
   intro hD wD τD hL hS hO _ _
   have st8 := St.start hS
   refine zac (L := LInt) (xs := [(p.chapter)]) (cs := [.int .i64 (p.chapter)]) st8 (Enc.cons (L := LInt) (vs := [.int .i64 (p.chapter)]) (x := (p.chapter)) (h := hD) (X) Enc.nil) X X X zg Tryz.info3 X X X t_kr<|fun v9 w10 h13 le14 f11 st12=> ?_
   exact zp ⟨_, _, rfl, st12, _, rfl, f11⟩
  refine zas 10 (.det (.bool (zcK (([(p.chapter)])) (0) (((t.chapters.length : Int) - 1))))) [3, 0] rfl t_kr t_kr ?_ ?_
  ·
   intro hD wD τD hL hS hO _ _ gv9_0 gf9_0
   have st15 := St.start hS
   refine ze st15 X X X zfB X (zfv st15.sub _ _ gf9_0)<|fun r16 w17 h18 le19 st20 q21=> ?_
   obtain rfl := q21
   exact zp ⟨_, _, rfl, st20, (), rfl, trivial⟩
  refine zc 11 [0] X t_kr t_kr X X (fun hD wD τD hL hS hO _ _ => (Run.lit (r_not X) g7_r))<|zc 12 [0, 1] X t_kr t_kr X X (fun hD wD τD hL hS hO _ _ _ _ => (zeW X))<|zaN 13 [0] X t_kr t_kr X X X X (fun hD wD τD hL hS hO _ _ => X)<|zaN 14 [0, 1] X t_kr t_kr X X X X (fun hD wD τD hL hS hO _ _ _ _ => X)<|zaN 15 [0, 2] X t_kr t_kr X X X X (fun hD wD τD hL hS hO _ _ _ _ => X)<|zaN 16 [0, 3] X t_kr t_kr X X X X (fun hD wD τD hL hS hO _ _ _ _ => X)<|zaN 17 [0, 4] X t_kr t_kr X X X X (fun hD wD τD hL hS hO _ _ _ _ => X)<|zaN 18 [5] X t_kr t_kr X X X X (fun hD wD τD hL hS hO _ _ => X)<|zaN 19 [0, 6] X t_kr t_kr X X X X (fun hD wD τD hL hS hO _ _ _ _ => X)<|zaN 20 [2, 0, 7] X t_kr t_kr X X X X (fun hD wD τD hL hS hO _ _ _ _ _ _ => X)<|zaN 21 [0, 8] X t_kr t_kr X X X X (fun hD wD τD hL hS hO _ _ _ _ => X)<|zaN 22 [0, 9] X t_kr t_kr X X X X (fun hD wD τD hL hS hO _ _ _ _ => X)<|zaN 23 [0, 10] X t_kr t_kr X X X X (fun hD wD τD hL hS hO _ _ _ _ => X)<|zaN 24 [0, 11] X t_kr t_kr X X X X (fun hD wD τD hL hS hO _ _ _ _ => X)<|zaN 25 [12] X t_kr t_kr X X X X (fun hD wD τD hL hS hO _ _ => X)<|zaN 26 [0, 13] X t_kr t_kr X X X X (fun hD wD τD hL hS hO _ _ _ _ => X)<|zaN 27 [0, 14] X t_kr t_kr X X X X (fun hD wD τD hL hS hO _ _ _ _ => X)<|zaN 28 [3, 0, 15] X t_kr t_kr X X X X (fun hD wD τD hL hS hO _ _ _ _ _ _ => X)<|zaN 29 [0, 16] X t_kr t_kr X X X X (fun hD wD τD hL hS hO _ _ _ _ => X)<|zc 30 [17, 0] X t_kr t_kr X X (fun hD wD τD hL hS hO _ _ _ _ => (zhz (v := (.bool _)) X X))<|zbP X X X X X X ⟨t_kr, X, t_kr, X, t_kr, X, X, t_kr, zcu⟩<|fun hE22 w23 _ le24 st25 _ _ _ _ _ _ _ _ _ _ _ _ _ _ _ _ _ _ gv9_0x26 gf9_0x26 _ _ _ _ _ _ _ _ _ _ _ _ _ _ _ _ _ _ _ _ _ _ _ _ _ _ _ _ _ _ _ _ _ _ _ _ _ _ _ _ _ _=>AllDeps.fin X<|O ?_
  refine zae rfl (fun c27 => ?_) (fun c27 => ?_)
  ·
   refine W.sr<|zcM X X<|Y<|zw<|zd<|zb Tryz.results122 ?_
   refine ⟨hE22, _, rfl, st25.done, ?_⟩
   refine ⟨_, rfl, Sl.to (Sl.nil _ _) ?_⟩
   have q : zcT t p = none := line_none1 (by
    have q := g7
    simp [zcK, inB] at q
    omega)
   simp [q]
  cases c27
 have g7_r := g7
 have q1 : 0 ≤ p.chapter ∧ p.chapter < t.chapters.length := by
  have q := g7
  simp [zcK, inB] at q
  omega
 obtain ⟨c, hc⟩ : ∃ y_, (t.chapters)[p.chapter.toNat]? = some y_ := t_ge (by omega)
 obtain ⟨b28, o29, _, he31, hc30, hr_c⟩ := Sl.elem (t_f0.up le4) hc
 obtain ⟨v32, rfl, f33⟩ := hr_c
 have f33_b := f33.le
 refine zbg (er := ([], [], [], [], 0)) (dsts := [5, 6, 7, 8, 9, 10, 11, 12, 13, 14, 15, 16, 17, 18, 19, 20, 21, 22, 23, 24, 25, 26, 27, 28, 29, 30, 31, 32, 33, 34, 35]) st6 Tryz.mixed<|zc 0 [] X t_kr t_kr X X (fun hD wD τD hL hS hO  => (r_mvP X))<|zc 1 [0] X t_kr t_kr X X (fun hD wD τD hL hS hO _ _ => (zdw X))<|zc 2 [0] X t_kr t_kr X X (fun hD wD τD hL hS hO _ _ => (zB X Tryz.underlying240 X zaA X))<|zc 3 [0] X t_kr t_kr X X (fun hD wD τD hL hS hO _ _ => (zB X zaP X zbx X))<|zc 4 [0] X t_kr t_kr X X (fun hD wD τD hL hS hO _ _ => (zf (j := 0) (hL.sub hS) (t_c.up le4) X X X zbW))<|zc 5 [0] X t_kr t_kr X X (fun hD wD τD hL hS hO _ _ => (zhS (t_f0.up le4) X zaK))<|zc 6 [0] X t_kr t_kr X X (fun hD wD τD hL hS hO _ _ => (ziF X X t_om))<|zc 7 [] X t_kr t_kr X X (fun hD wD τD hL hS hO  => (zB X zao X zl X))<|zc 8 [0] X t_kr t_kr X X (fun hD wD τD hL hS hO _ _ => (zf (j := 0) (hL.sub hS) hc5 X X X zz)) ?_
 refine zas 9 (.res (fun h' res_ => Sl LInt h' res_ ([(p.chapter)])) (fun _ _ _ hl f => f.up hl)) [0] rfl t_kr t_kr ?_ ?_
 ·
  intro hD wD τD hL hS hO _ _
  have st34 := St.start hS
  refine zac (L := LInt) (xs := [(p.chapter)]) (cs := [.int .i64 (p.chapter)]) st34 (Enc.cons (L := LInt) (vs := [.int .i64 (p.chapter)]) (x := (p.chapter)) (h := hD) (X) Enc.nil) X X X zg Tryz.info3 X X X t_kr<|fun v35 w36 h39 le40 f37 st38=> ?_
  exact zp ⟨_, _, rfl, st38, _, rfl, f37⟩
 refine zas 10 (.det (.bool (zcK (([(p.chapter)])) (0) (((t.chapters.length : Int) - 1))))) [3, 0] rfl t_kr t_kr ?_ ?_
 ·
  intro hD wD τD hL hS hO _ _ gv9_0 gf9_0
  have st41 := St.start hS
  refine ze st41 X X X zfB X (zfv st41.sub _ _ gf9_0)<|fun r42 w43 h44 le45 st46 q47=> ?_
  obtain rfl := q47
  exact zp ⟨_, _, rfl, st46, (), rfl, trivial⟩
 refine zc 11 [0] X t_kr t_kr X X (fun hD wD τD hL hS hO _ _ => (Run.lit (r_not X) g7_r))<|zc 12 [0, 1] X t_kr t_kr X X (fun hD wD τD hL hS hO _ _ _ _ => (zeW X))<|zba 13 [0] X t_kr t_kr X X X (fun hD wD τD hL hS hO _ _ => ⟨rfl, (r_mvP X)⟩)<|zba 14 [0, 1] X t_kr t_kr X X X (fun hD wD τD hL hS hO _ _ _ _ => ⟨rfl, (zdw X)⟩)<|zba 15 [0, 2] X t_kr t_kr X X X (fun hD wD τD hL hS hO _ _ _ _ => ⟨rfl, (zB X Tryz.underlying240 X zaA X)⟩)<|zba 16 [0, 3] X t_kr t_kr X X X (fun hD wD τD hL hS hO _ _ _ _ => ⟨rfl, (zB X zaP X zbx X)⟩)<|zba 17 [0, 4] X t_kr t_kr X X X (fun hD wD τD hL hS hO _ _ _ _ => ⟨rfl, (zf (j := 0) (hL.sub hS) (t_c.up le4) X X X zbW)⟩)<|zba 18 [5] X t_kr t_kr X X X (fun hD wD τD hL hS hO _ _ => ⟨rfl, (zB X zao X zl X)⟩)<|zba 19 [0, 6] X t_kr t_kr X X X (fun hD wD τD hL hS hO _ _ _ _ => ⟨rfl, (zf (j := 0) (hL.sub hS) hc5 X X X zz)⟩) ?_
 refine zba 20 [2, 0, 7] rfl t_kr t_kr rfl rfl rfl (fun hD wD τD hL hS hO _ _ _ _ _ _ => ⟨rfl, (zav he31 rfl rfl (hk := (show _ = ((p.chapter.toNat : Nat) : Int) by omega)) (hu := zaK) (hz := zbA))⟩) ?_
 refine zba 21 [0, 8] X t_kr t_kr X X X (fun hD wD τD hL hS hO _ _ _ _ => ⟨rfl, (zB X zaJ X zbH X)⟩)<|zba 22 [0, 9] X t_kr t_kr X X X (fun hD wD τD hL hS hO _ _ _ _ => ⟨rfl, (zf (j := 1) (hL.sub hS) hc30 X X X zcm)⟩)<|zba 23 [0, 10] X t_kr t_kr X X X (fun hD wD τD hL hS hO _ _ _ _ => ⟨rfl, (zhS f33 X zaO)⟩)<|zba 24 [0, 11] X t_kr t_kr X X X (fun hD wD τD hL hS hO _ _ _ _ => ⟨rfl, (ziF X X t_om)⟩)<|zba 25 [12] X t_kr t_kr X X X (fun hD wD τD hL hS hO _ _ => ⟨rfl, (zB X zao X zl X)⟩)<|zba 26 [0, 13] X t_kr t_kr X X X (fun hD wD τD hL hS hO _ _ _ _ => ⟨rfl, (zf (j := 1) (hL.sub hS) hc5 X X X zz)⟩) ?_
 refine zas 27 (.res (fun h' res_ => Sl LInt h' res_ ([(p.line)])) (fun _ _ _ hl f => f.up hl)) [0, 14] rfl t_kr t_kr ?_ ?_
 ·
  intro hD wD τD hL hS hO _ _ _ _
  have st48 := St.start hS
  refine Z X X X<|zac (L := LInt) (xs := [(p.line)]) (cs := [.int .i64 (p.line)]) st48 (Enc.cons (L := LInt) (vs := [.int .i64 (p.line)]) (x := (p.line)) (h := hD) (X) Enc.nil) X X X zg Tryz.info3 X X X t_kr<|fun v49 w50 h53 le54 f51 st52=> ?_
  exact zp ⟨_, _, rfl, st52, _, rfl, f51⟩
 refine zas 28 (.det (.bool (zcK (([(p.line)])) (0) (((c.lines.length : Int) - 1))))) [3, 0, 15] rfl t_kr t_kr ?_ ?_
 ·
  intro hD wD τD hL hS hO _ _ gv27_0 gf27_0 _ _
  have st55 := St.start hS
  refine Z X X X<|ze st55 X X X zfB X (zfv st55.sub _ _ gf27_0)<|fun r56 w57 h58 le59 st60 q61=> ?_
  obtain rfl := q61
  exact zp ⟨_, _, rfl, st60, (), rfl, trivial⟩
 refine zba 29 [0, 16] X t_kr t_kr X X X (fun hD wD τD hL hS hO _ _ _ _ => ⟨rfl, (r_not X)⟩)<|zc 30 [17, 0] X t_kr t_kr X X (fun hD wD τD hL hS hO _ _ _ _ => (zfR (v := (.bool _)) X X))<|zbP X X X X X X ⟨t_kr, X, t_kr, X, t_kr, X, X, t_kr, zcu⟩<|fun hE62 w63 _ le64 st65 _ _ _ _ _ _ _ _ _ _ _ _ _ _ _ _ _ _ gv9_0x66 gf9_0x66 _ _ _ _ _ _ _ _ _ _ _ _ _ _ _ _ _ _ _ _ _ _ _ _ _ _ _ _ _ _ _ _ _ _ gv27_0x66 gf27_0x66 _ _ _ _ _ _=>AllDeps.fin X<|O ?_
 refine zae rfl (fun c67 => ?_) (fun c67 => ?_)
 ·
  refine W.sr<|zcM X X<|Y<|zw<|zd<|zb Tryz.results122 ?_
  refine ⟨hE62, _, rfl, st65.done, ?_⟩
  refine ⟨_, rfl, Sl.to (Sl.nil _ _) ?_⟩
  have q : zcT t p = none := line_none2 hc (by
   have q := c67
   simp [zcK, inB] at q
   omega)
  simp [q]
 refine zy<|O<|zj ?_
 have q1 : 0 ≤ p.chapter ∧ p.chapter < t.chapters.length ∧ 0 ≤ p.line ∧ p.line < c.lines.length := by
  have q := g7
  have q0 := c67
  simp [zcK, inB] at q q0
  omega
 refine zbX Tryz.mixed t_kr (Cls hE62 _) (Cls.drew st65)<|u_mvP X X<|zH X X (fun _ _ => (zdw X))<|zZ X Tryz.underlying240 X zaA X X<|zZ X zaP X zbx X X<|have l68:=le4.trans le64;zH X X (fun _ hC => (zf (j := 0) hC.sub (t_c.up l68) X X X zbW))<|zZ X zao X zl X X<|zH X X (fun _ hC => (zf (j := 0) hC.sub (hc5.up le64) X X X zz)) ?_
 refine zH rfl rfl (fun _ _ => (zav he31 rfl rfl (hk := (show _ = ((p.chapter.toNat : Nat) : Int) by omega)) (hu := zaK) (hz := zbA))) ?_
 refine zZ X zaJ X zbH X X<|zH X X (fun _ hC => (zf (j := 1) hC.sub (hc30.up le64) X X X zcm))<|zZ X zao X zl X X<|zH X X (fun _ hC => (zf (j := 1) hC.sub (hc5.up le64) X X X zz)) ?_
 obtain ⟨ln, hln⟩ : ∃ y_, (c.lines)[p.line.toNat]? = some y_ := t_ge (by omega)
 obtain ⟨b69, o70, _, he72, hc71, hr_ln⟩ := Sl.elem (f33.up le64) hln
 obtain ⟨v73, rfl, f74⟩ := hr_ln
 have f74_b := f74.le
 refine zH rfl rfl (fun _ _ => (zav he72 rfl rfl (hk := (show _ = ((p.line.toNat : Nat) : Int) by omega)) (hu := zaO) (hz := zdK))) ?_
 refine zH X X (fun _ hC => (zf (j := 0) hC.sub hc71 X X X zee))<|u_assign (v := v73) X X<|zbC ?_
 rintro w75 ⟨h76, s77⟩
 have st78 := st65.call0 s77
 refine O<|zw<|zb Tryz.results122 ?_
 refine ⟨h76, _, rfl, st78.done, ?_⟩
 refine ⟨_, rfl, Sl.to (f74.up s77.le) ?_⟩
 rw [line_some hc q1.1 hln q1.2.2.1]; rfl
theorem c_leaf_book_has {h : Heap} {w : World} (hs : Sub h w) {t_b : Nat} {t : Text} {t_v0 : Value} (t_f0 : Sl LChapter h t_v0 t.chapters) (t_c : Cells h t_b 0 [t_v0]) {p : Place} : Calls Tryz.prog 163 #[.pointer (some ⟨t_b, 0, none⟩), .agg #[.int .i64 p.chapter, .int .i64 p.line, .int .i64 p.word]] w (Rets h w (fun _ _ res_ => res_ = .bool (zbE t p))) := by
 refine zP (n := 14) Tryz.func163 X X X<|have st0:=t_s0 hs;have t_f0_b:=t_f0.le;W.sr<|zJ st0 (cs := [.int .i64 (p.chapter), .int .i64 (p.line), .int .i64 (p.word)]) X X X<|fun b1 w2 h3 le4 hc5 st6=>zF X X<|Y<|zj<|have qb:=line_le t_f0 p;zbg (er := ([], [], [], [], 0)) (dsts := [5, 6, 7, 8, 9, 10, 11, 12, 13, 4]) st6 Tryz.mixed<|zc 0 [] X t_kr t_kr X X (fun hD wD τD hL hS hO  => (r_mvP X))<|zc 1 [] X t_kr t_kr X X (fun hD wD τD hL hS hO  => (zat (hL.sub hS) hc5 X zaQ zW X)) ?_
 refine zas 2 (.res (fun h' res_ => Sl LStr h' res_ ((zcT (t) (p)).getD [])) (fun _ _ _ hl f => f.up hl)) [1, 0] rfl t_kr t_kr ?_ ?_
 ·
  intro hD wD τD hL hS hO _ _ _ _
  have st7 := St.start hS
  refine ze st7 X X X Tryz.call122 X (ziQ st7.sub (t := t) (t_f0.up (le4.trans hL)) (t_c.up (le4.trans hL)) (p := p))<|fun r8 w9 h10 le11 st12 q13=> ?_
  obtain ⟨v14, e16, f15⟩ := q13
  rw [← e16] at f15
  have f15_b := f15.le
  exact zp ⟨_, _, rfl, st12, _, rfl, f15⟩
 refine zas 3 (.det (.int .i64 (((zcT (t) (p)).getD []).length : Int))) [0] rfl t_kr t_kr ?_ ?_
 ·
  intro hD wD τD hL hS hO gv2_0 gf2_0
  have st17 := St.start hS
  refine zaH gf2_0 X zV X ?_
  exact zp ⟨_, _, rfl, st17, (), rfl, trivial⟩
 refine zc 4 [0] X t_kr t_kr X X (fun hD wD τD hL hS hO _ _ => (ziF X X t_om))<|zc 5 [] X t_kr t_kr X X (fun hD wD τD hL hS hO  => (zB X zao X zl X))<|zc 6 [0] X t_kr t_kr X X (fun hD wD τD hL hS hO _ _ => (zf (j := 2) (hL.sub hS) hc5 X X X zz)) ?_
 refine zas 7 (.res (fun h' res_ => Sl LInt h' res_ ([(p.word)])) (fun _ _ _ hl f => f.up hl)) [0] rfl t_kr t_kr ?_ ?_
 ·
  intro hD wD τD hL hS hO _ _
  have st18 := St.start hS
  refine zac (L := LInt) (xs := [(p.word)]) (cs := [.int .i64 (p.word)]) st18 (Enc.cons (L := LInt) (vs := [.int .i64 (p.word)]) (x := (p.word)) (h := hD) (X) Enc.nil) X X X zg Tryz.info3 X X X t_kr<|fun v19 w20 h23 le24 f21 st22=> ?_
  exact zp ⟨_, _, rfl, st22, _, rfl, f21⟩
 refine zas 8 (.det (.bool (zcK (([(p.word)])) (0) (((((zcT (t) (p)).getD []).length : Int) - 1))))) [3, 0, 5] rfl t_kr t_kr ?_ ?_
 ·
  intro hD wD τD hL hS hO _ _ gv7_0 gf7_0 gv2_0 gf2_0
  have st25 := St.start hS
  refine ze st25 X X X zfB X (zfv st25.sub _ _ gf7_0)<|fun r26 w27 h28 le29 st30 q31=> ?_
  obtain rfl := q31
  exact zp ⟨_, _, rfl, st30, (), rfl, trivial⟩
 refine zc 9 [8, 7, 6, 5, 4, 3, 2, 1, 0] X t_kr t_kr X X (fun hD wD τD hL hS hO _ _ _ _ gv2_0 gf2_0 _ _ _ _ _ _ _ _ gv7_0 gf7_0 _ _ => (r_asB X))<|zbP X X X X X X ⟨t_kr, X, t_kr, X, t_kr, X, X, t_kr, zcu⟩<|fun hE32 w33 _ le34 st35 _ _ _ _ gv2_0x36 gf2_0x36 _ _ _ _ _ _ _ _ gv7_0x36 gf7_0x36 _ _ _ _=>AllDeps.fin X<|O<|zw<|zb Tryz.results163 ?_
 refine ⟨hE32, _, rfl, st35.done, ?_⟩
 refine zx ?_
 rw [place_eq]
 cases hq : zcT t p with
 | none => simp [zcK, inB]; omega
 | some l => simp [zcK]
theorem c_leaf_placed {h : Heap} {w : World} (hs : Sub h w) {t : Text} {t_v0 : Value} (t_f0 : Sl LChapter h t_v0 t.chapters) {p : Place} : Calls Tryz.prog 121 #[.agg #[t_v0], .agg #[.int .i64 p.chapter, .int .i64 p.line, .int .i64 p.word]] w (Rets h w (fun h' _ res_ => ∃ u0, res_ = .tuple #[u0, .int .i64 ((if zbm t && zbE t p then 0 else if zbm t then 12 else 10))] ∧ Box LText h' (zbm t && zbE t p) t u0)) := by
 refine zP (n := 21) Tryz.func121 X X X<|have st0:=t_s0 hs;have t_f0_b:=t_f0.le;W.sr<|zJ st0 (cs := [t_v0]) X X X<|fun b1 w2 h3 le4 hc5 st6=>zJ st6 (cs := [.int .i64 (p.chapter), .int .i64 (p.line), .int .i64 (p.word)]) X X X<|fun b7 w8 h9 le10 hc11 st12=>zaf X X<|zq X X<|Y<|W.sr<|zr st12.sub (hc5.up le10) X zbk zaA X X<|have l13:=le4.trans le10;ze st12 X X X Tryz.call162 X (c_leaf_open st12.sub (t := t) (t_f0.up l13))<|fun r14 w15 h16 le17 st18 q19=> ?_
 rcases Bool.eq_false_or_eq_true (zbm (t)) with hb20 | hb20
 ·
  simp only [hb20, if_true, if_false, Bool.false_eq_true, reduceIte] at q19
  obtain ⟨v21, rfl, f22⟩ := q19
  obtain ⟨b23, vs24, rfl, hc25, hr26⟩ := f22
  obtain ⟨v27, rfl, f28⟩ := hr26
  have f28_b := f28.le
  refine zbY X X<|zA (v := (.pointer (some _))) X X X<|zA (v := (.int _ _)) X X X<|v_asP X X<|zq X X<|Y<|zj<|W.sr<|zh X X<|zcf X X X<|Y ?_
  refine zae rfl (fun c29 => ?_) (fun c29 => ?_)
  ·
   exact absurd c29 (by decide)
  refine zy<|O<|zj<|W.sr<|v_mvP X X<|zr st18.sub (hc11.up le17) X zaQ zW X X<|ze st18 X X X Tryz.call163 X (c_leaf_book_has st18.sub (t := (t)) f28 hc25 (p := p))<|fun r30 w31 h32 le33 st34 q35=> ?_
  obtain rfl := q35
  refine zbl X X<|Y ?_
  refine zae rfl (fun c36 => ?_) (fun c36 => ?_)
  ·
   refine W.sr<|zaf X X<|zq X X<|Y<|zw<|zd<|zbb Tryz.results121 ?_
   refine ⟨h32, _, rfl, st34.done, ?_⟩
   refine ⟨_, tup2 rfl (zah ?_), Box.nil ?_⟩
   ·simp_all
   simp_all
  refine zy<|O<|W.sr<|v_mvP X X<|v_asP X X<|zq X X<|Y<|zw<|zbb Tryz.results121 ?_
  refine ⟨h32, _, rfl, st34.done, ?_⟩
  refine ⟨_, tup2 rfl (zah ?_), Box.some ?_ (hc25.up le33) ⟨_, rfl, (f28.up le33)⟩⟩
  ·simp_all
  simp_all
 simp only [hb20, if_true, if_false, Bool.false_eq_true, reduceIte] at q19
 obtain ⟨v37, rfl, f38⟩ := q19
 obtain rfl := f38
 refine zbY X X<|zA (v := (.pointer none)) X X X<|zA (v := (.int _ _)) X X X<|zaf X X<|zq X X<|Y<|zj<|W.sr<|zh X X<|zcf X X X<|Y ?_
 refine zae rfl (fun c39 => ?_) (fun c39 => ?_)
 ·
  refine W.sr<|zh X X<|zaf X X<|zq X X<|Y<|zw<|zd<|zbb Tryz.results121 ?_
  refine ⟨h16, _, rfl, st18.done, ?_⟩
  refine ⟨_, tup2 rfl (zah ?_), Box.nil ?_⟩
  ·simp_all
  simp_all
 exact absurd c39 (by decide)
theorem zgP {h : Heap} {w : World} (hs : Sub h w) {t : Text} {t_v0 : Value} (t_f0 : Sl LChapter h t_v0 t.chapters) {p : Place} : Calls Tryz.prog 85 #[.agg #[t_v0], .agg #[.int .i64 p.chapter, .int .i64 p.line, .int .i64 p.word]] w (Rets h w (fun _ _ res_ => res_ = .tuple #[strV ((if zbm t then (zgF t p).getD [] else [])), .int .i64 ((if zbm t && zbE t p then 0 else if zbm t then 12 else 10))])) := by
 refine zP (n := 24) Tryz.func85 X X X<|have st0:=t_s0 hs;have t_f0_b:=t_f0.le;W.sr<|zJ st0 (cs := [t_v0]) X X X<|fun b1 w2 h3 le4 hc5 st6=>zJ st6 (cs := [.int .i64 (p.chapter), .int .i64 (p.line), .int .i64 (p.word)]) X X X<|fun b7 w8 h9 le10 hc11 st12=>zfD X X<|zq X X<|Y<|W.sr<|zr st12.sub (hc5.up le10) X zbk zaA X X<|zr st12.sub hc11 X zaQ zW X X<|have l13:=le4.trans le10;ze st12 X X X Tryz.call121 X (c_leaf_placed st12.sub (t := t) (t_f0.up l13) (p := p))<|fun r14 w15 h16 le17 st18 q19=> ?_
 rcases Bool.eq_false_or_eq_true (zbm (t) && zbE (t) (p)) with hb20 | hb20
 ·
  simp only [hb20, if_true, if_false, Bool.false_eq_true, reduceIte] at q19
  obtain ⟨v21, rfl, f22⟩ := q19
  obtain ⟨b23, vs24, rfl, hc25, hr26⟩ := f22
  obtain ⟨v27, rfl, f28⟩ := hr26
  have f28_b := f28.le
  refine zbY X X<|zA (v := (.pointer (some _))) X X X<|zA (v := (.int _ _)) X X X<|v_asP X X<|zq X X<|Y<|zj<|W.sr<|zh X X<|zcf X X X<|Y ?_
  refine zae rfl (fun c29 => ?_) (fun c29 => ?_)
  ·
   exact absurd c29 (by decide)
  refine zy<|O<|zj ?_
  have q1 : zbE t p = true := by simp_all
  have q2 := place_eq t p
  have q3 : 0 ≤ p.word ∧ p.word < (((zcT t p).getD []).length : Int) := by
   rw [q1] at q2
   simp [inB] at q2
   omega
  obtain ⟨wd, hwd⟩ : ∃ y_, (((zcT ((t)) (p)).getD []))[p.word.toNat]? = some y_ := t_ge (by omega)
  refine zbg (er := ([], [], [], [], 0)) (dsts := [17, 18, 19, 20, 21, 22, 23, 4, 5]) st18 Tryz.mixed<|zc 0 [] X t_kr t_kr X X (fun hD wD τD hL hS hO  => (r_mvP X))<|zc 1 [] X t_kr t_kr X X (fun hD wD τD hL hS hO  => (zat (hL.sub hS) (hc11.up le17) X zaQ zW X)) ?_
  refine zas 2 (.res (fun h' res_ => Sl LStr h' res_ ((zcT ((t)) (p)).getD [])) (fun _ _ _ hl f => f.up hl)) [1, 0] rfl t_kr t_kr ?_ ?_
  ·
   intro hD wD τD hL hS hO _ _ _ _
   have st30 := St.start hS
   refine ze st30 X X X Tryz.call122 X (ziQ st30.sub (t := (t)) (f28.up hL) (hc25.up hL) (p := p))<|fun r31 w32 h33 le34 st35 q36=> ?_
   obtain ⟨v37, e39, f38⟩ := q36
   rw [← e39] at f38
   have f38_b := f38.le
   exact zp ⟨_, _, rfl, st35, _, rfl, f38⟩
  refine zc 3 [] X t_kr t_kr X X (fun hD wD τD hL hS hO  => (zB X zao X zl X))<|zc 4 [0] X t_kr t_kr X X (fun hD wD τD hL hS hO _ _ => (zf (j := 2) (hL.sub hS) (hc11.up le17) X X X zz)) ?_
  refine zas 5 (.res (fun h' res_ => ∃ b o, res_ = .pointer (some ⟨b, o, none⟩) ∧ Cells h' b o [strV wd]) (by rintro _ _ _ hl ⟨b, o, e, c⟩; exact ⟨b, o, e, c.up hl⟩)) [2, 0] rfl t_kr t_kr ?_ ?_
  ·
   intro hD wD τD hL hS hO gv2_0 gf2_0 _ _
   have st40 := St.start hS
   obtain ⟨b_, o_, _, he_, hc_, hr_⟩ := Sl.elem gf2_0 hwd
   obtain ⟨rfl, ls41⟩ := hr_
   simp only [big] at ls41
   refine zi rfl rfl (zav he_ rfl rfl (hk := (show _ = ((p.word.toNat : Nat) : Int) by omega)) (hu := zV) (hz := zak)) ?_
   exact zp ⟨_, _, rfl, st40, _, rfl, _, _, rfl, hc_⟩
  refine zas 6 (.det (strV wd)) [0] rfl t_kr t_kr ?_ ?_
  ·
   intro hD wD τD hL hS hO gv5_ gf5_
   obtain ⟨gb5, go5, rfl, gc5⟩ := gf5_
   have st42 := St.start hS
   refine U (j := 0) hS gc5 X X X zaD X ?_
   exact zp ⟨_, _, rfl, st42, (), rfl, trivial⟩
  refine zc 7 [6, 5, 4, 3, 2, 1, 0] X t_kr t_kr X X (fun hD wD τD hL hS hO _ _ _ _ gv2_0 gf2_0 _ _ _ _ gv5_ gf5_ _ _ => (r_asS X))<|zc 8 [7, 6, 5, 4, 3, 2, 1, 0] X t_kr t_kr X X (fun hD wD τD hL hS hO _ _ _ _ gv2_0 gf2_0 _ _ _ _ gv5_ gf5_ _ _ _ _ => (r_asI X))<|zbP X X X X X X ⟨t_kr, X, t_kr, X, t_kr, X, X, t_kr, zcu⟩<|fun hE43 w44 _ le45 st46 _ _ _ _ gv2_0x47 gf2_0x47 _ _ _ _ gv5_x47 gf5_x47 _ _ _ _ _ _=> ?_
  obtain ⟨gb5x47, go5x47, rfl, gc5x47⟩ := gf5_x47
  refine AllDeps.fin X<|O<|zw<|zbb Tryz.results85 ?_
  refine ⟨hE43, _, rfl, st46.done, ?_⟩
  refine tup2 (str_eq ?_) (zah ?_)
  all_goals have qq : zbm t = true ∧ zbE t p = true := by simp_all
  ·simp [qq.1, word_some qq.2 hwd]
  simp [qq.1, qq.2]
 simp only [hb20, if_true, if_false, Bool.false_eq_true, reduceIte] at q19
 obtain ⟨v48, rfl, f49⟩ := q19
 obtain rfl := f49
 refine zbY X X<|zA (v := (.pointer none)) X X X<|zA (v := (.int _ _)) X X X<|zaf X X<|zq X X<|Y<|zj<|W.sr<|zh X X<|zcf X X X<|Y ?_
 refine zC rfl (fun c50 => ?_) (fun c50 => ?_)
 ·
  refine W.sr<|zh X X<|zfD X X<|zq X X<|Y<|zw<|zd<|zbb Tryz.results85 ?_
  refine ⟨h16, _, rfl, st18.done, ?_⟩
  refine tup2 (str_eq ?_) (zah ?_)
  all_goals have qq : zbm t = true → zbE t p = false := by simp_all
  ·cases q0 : zbm t
   ·rfl
   ·simp [word_none (qq q0)]
  cases q0 : zbm t
  ·rfl
  simp [qq q0]
 exfalso
 revert c50
 split <;> simp
end Go.Pk

namespace Go.Pk
open Go Go.RowKit Go.Proofs
theorem c_strings_indexFunc {s : Str} (hlen : s.length ≤ 281474976710656) {g : FuncId} {caps : List Value} (p : Int → Bool) (hp : ∀ x : Int, 128 ≤ x → p x = true)
  (hf : ∀ (x : Int) h w, Sub h w → Calls Tryz.prog g (.int .i32 x :: caps).toArray w (Rets h w fun _ _ r => r = .bool (p x)))
  (hg : ∀ a w, (callFunc g a).run Tryz.prog w = .ok (.enter g a) w) {h : Heap} {w : World} (hs : Sub h w) :
  Calls Tryz.prog 236 #[strV s, .func (.func g) #[] caps.toArray, .bool true] w (Rets h w fun _ _ r => ∃ k : Int, r = .int .i64 k ∧ (0 ≤ k ↔ (s.any fun c => p (c.toNat : Int)) = true)) := by
 refine zP (n := 21) Tryz.func236 X X X<|have st0:=t_s0 hs;W.sr<|zq X X<|Y<|zj<|W.sr<|zcn X X<|OpsL.rangeS st0 X zaB X<|fun b w1 st1=>Y<|zG ?_
 refine zax ([7, 8] ++ t_rg 11 10 ++ [6]) (G := Nat × Heap) (fun ⟨k, _⟩ => []) (fun ⟨k, h'⟩ w' => Le h h' ∧ St h w h' w' [[(b, .stringIter ⟨s.toArray⟩ k)]] ∧ k ≤ s.length ∧ ∀ j c, j < k → s[j]? = some c → p (c.toNat : Int) = false) (fun ⟨k, _⟩ => s.length - k) ⟨0, h⟩ trivial ⟨Le.refl _, st1, by omega, by intros; omega⟩ ?_
 rintro ⟨k, h2⟩ _ w2 ⟨le2, st2, hk, hall⟩
 rcases Nat.lt_or_ge k s.length with hlt | hge
 ·obtain ⟨c, hc⟩ : ∃ c, s[k]? = some c := ⟨_, List.getElem?_eq_getElem hlt⟩
  refine W.sr<|OpsL.nextS st2 (k := 0) X X hc X<|fun w3 st3=> ?_
  generalize hR : Utf8.decode ⟨s.toArray⟩ k = R at st3
  refine zA (v := .bool _) X X X<|Y<|zj ?_
  refine zae rfl (fun c1 => ?_) (fun c1 => ?_)
  ·refine zy ?_
   refine O<|zG<|W.sr<|zA (v := .int _ _) X X X<|zA (v := .int _ _) X X X<|zq X X<|zq X X<|Y<|W.sr<|zgY X X<|zh X X ?_
   refine zay rfl rfl (zca (fs := []) (cs := caps) rfl rfl hg rfl) ((hf (R.1 : Int) h2 w3 st3.sub).mono ?_)
   rintro e w4 ⟨h4, r4, rfl, s4, rfl⟩
   refine ⟨_, rfl, ?_⟩
   have st4 := st3.call0 s4
   refine zS X X<|zi X X (r_beql X X zbv)<|Y ?_
   refine zae rfl (fun c2 => ?_) (fun c2 => ?_)
   ·have c3 : p (R.1 : Int) = true := by simpa using c2
    refine W.sr<|zh X X<|zq X X<|Y<|zw ?_
    repeat (first | refine zK ?_ | refine zd ?_)
    refine zb Tryz.results236 ?_
    refine ⟨h4, _, rfl, st4.done, (k : Int), rfl, ⟨fun _ => ?_, fun _ => by omega⟩⟩
    rw [List.any_eq_true]
    refine ⟨c, List.mem_of_getElem? hc, ?_⟩
    by_cases hl : c.toNat < 128
    ·rw [decode_low hc hl] at hR; subst hR; exact c3
    ·exact hp _ (by omega)
   ·have c3 : p (R.1 : Int) = false := by simpa using c2
    have hl : c.toNat < 128 := by
     rcases Nat.lt_or_ge c.toNat 128 with h5 | h5
     ·exact h5
     ·have q := decode_high hc (by omega)
      rw [hR] at q
      rw [hp _ (by omega)] at c3; cases c3
    rw [decode_low hc hl] at hR
    subst hR
    refine zy<|zO ?_
    refine ⟨⟨k + 1, h4⟩, trivial, ?_, ⟨le2.trans s4.le, st4, by omega, ?_⟩, ?_⟩
    ·exact zau
    ·intro j d hj hd
     rcases Nat.lt_or_ge j k with h3 | h3
     ·exact hall j d h3 hd
     ·obtain rfl : j = k := by omega
      rw [hc] at hd; cases hd
      exact c3
    ·show s.length - (k + 1) < s.length - k
     omega
  ·cases c1
 ·refine zj ?_
  refine zn<|OpsL.nextE st2 (k := 0) X X hge X<|zA (v := .bool _) X X X<|Y<|zj ?_
  refine zae rfl (fun c1 => ?_) (fun c1 => ?_)
  ·cases c1
  ·refine zaI ?_
   refine zm<|zm<|zam<|O<|W.sr<|zq X X<|Y<|zw<|zb Tryz.results236 ?_
   refine ⟨h2, _, rfl, st2.done, _, rfl, ⟨fun q => absurd q (by decide), fun q => ?_⟩⟩
   rw [List.any_eq_true] at q
   obtain ⟨c, hc, hpc⟩ := q
   obtain ⟨j, hj⟩ := List.mem_iff_getElem?.1 hc
   have hjl := (List.getElem?_eq_some_iff.1 hj).1
   rw [hall j c (by omega) hj] at hpc; cases hpc
theorem c_strings_IndexFunc {s : Str} (hlen : s.length ≤ 281474976710656) {g : FuncId} {caps : List Value} (p : Int → Bool) (hp : ∀ x : Int, 128 ≤ x → p x = true)
  (hf : ∀ (x : Int) h w, Sub h w → Calls Tryz.prog g (.int .i32 x :: caps).toArray w (Rets h w fun _ _ r => r = .bool (p x)))
  (hg : ∀ a w, (callFunc g a).run Tryz.prog w = .ok (.enter g a) w) {h : Heap} {w : World} (hs : Sub h w) :
  Calls Tryz.prog 224 #[strV s, .func (.func g) #[] caps.toArray] w (Rets h w fun _ _ r => ∃ k : Int, r = .int .i64 k ∧ (0 ≤ k ↔ (s.any fun c => p (c.toNat : Int)) = true)) := by
 refine zP (n := 8) Tryz.func224 X X X<|have st0:=t_s0 hs;W.sr<|zq X X<|Y<|W.sr<|zcn X X<|zgY X X<|ze st0 X X X Tryz.call236 X (c_strings_indexFunc hlen p hp hf hg st0.sub) ?_
 rintro v w1 h1 le1 st1 ⟨k, rfl, hk⟩
 refine zq X X<|Y<|zw<|zb Tryz.results224 ?_
 exact ⟨h1, _, rfl, st1.done, k, rfl, hk⟩
theorem zjg {s : Str} (hlen : s.length ≤ 281474976710656) {g : FuncId} {caps : List Value} (p : Int → Bool) (hp : ∀ x : Int, 128 ≤ x → p x = true)
  (hf : ∀ (x : Int) h w, Sub h w → Calls Tryz.prog g (.int .i32 x :: caps).toArray w (Rets h w fun _ _ r => r = .bool (p x)))
  (hg : ∀ a w, (callFunc g a).run Tryz.prog w = .ok (.enter g a) w) {h : Heap} {w : World} (hs : Sub h w) :
  Calls Tryz.prog 181 #[strV s, .func (.func g) #[] caps.toArray] w (Rets h w fun _ _ r => r = .bool (s.any fun c => p (c.toNat : Int))) := by
 refine zP (n := 9) Tryz.func181 X X X<|have st0:=t_s0 hs;W.sr<|zF X X<|Y<|W.sr<|zcn X X<|zgY X X<|ze st0 X X X Tryz.call224 X (c_strings_IndexFunc hlen p hp hf hg st0.sub) ?_
 rintro v w1 h1 le1 st1 ⟨k, rfl, hk⟩
 refine zhq X X X<|zF X X<|Y<|zw<|zb Tryz.results181 ?_
 refine ⟨h1, _, rfl, st1.done, zx ?_⟩
 rw [Bool.eq_iff_iff, decide_eq_true_eq]
 exact hk
end Go.Pk

namespace Go.Pk
open Go Go.RowKit Go.Proofs
theorem c_stem_letters_1 {h : Heap} {w : World} (hs : Sub h w) (c : Int) : Calls Tryz.prog 182 #[.int .i32 c] w (Rets h w (fun _ _ res_ => res_ = .bool ((decide (c < 97) || decide (122 < c))))) := by
 refine zP (n := 9) Tryz.func182 X X X<|have st0:=t_s0 hs;W.sr<|zF X X<|Y<|W.sr<|zh X X<|zaX X X X<|zS X X ?_
 refine zY (d := 5) rfl (fun g1 => ?_) (fun g1 => ?_)
 ·
  refine M X X X X X<|M X X X X X<|zT (v := (.bool _)) X X X<|zF X X<|Y<|zw<|zb Tryz.results182 ?_
  refine ⟨h, _, rfl, st0.done, ?_⟩
  refine zx ?_
  first | (simp_all; done) | (simp_all; omega)
 refine Z X X X<|zh X X<|Z X X X<|zdm X X X<|zN (v := (.bool _)) X X X<|zF X X<|Y<|zw<|zb Tryz.results182 ?_
 refine ⟨h, _, rfl, st0.done, ?_⟩
 refine zx ?_
 first | (simp_all; done) | (simp_all; omega)
theorem zfj {h : Heap} {w : World} (hs : Sub h w) (s : Str) (s_le : s.length ≤ 281474976710656) (lo : Int) : Calls Tryz.prog 134 #[strV s, .int .i64 lo] w (Rets h w (fun _ _ res_ => res_ = .bool (zcH s lo))) := by
 refine zP (n := 15) Tryz.func134 X X X<|have st0:=t_s0 hs;W.sr<|zF X X<|Y<|W.sr<|zh X X<|zcn X X<|zcx X zaB X<|zac (L := LInt) (xs := [(s.length : Int)]) (cs := [.int .i64 (s.length : Int)]) st0 (Enc.cons (L := LInt) (vs := [.int .i64 (s.length : Int)]) (x := (s.length : Int)) (h := h) (X) Enc.nil) X X X zg Tryz.info3 X X X t_kr<|fun v1 w2 h5 le6 f3 st4=>ze st4 X X X Tryz.call135 X (ziN st4.sub _ _ f3)<|fun r7 w8 h9 le10 st11 q12=> ?_
 obtain rfl := q12
 refine zS X X ?_
 refine zaw (d := 10) rfl (fun g13 => ?_) (fun g13 => ?_)
 ·
  refine Z X X X<|zcn X X<|Z X X X ?_
  refine ze st11 rfl rfl rfl Tryz.call181 rfl (zjg (s := s) zbr (fun x_ : Int => (decide ((x_) < 97) || decide (122 < (x_)))) (by intro x_ hx_; simp; omega) (fun x_ h_ w_ hs_ => c_stem_letters_1 hs_ x_) Tryz.call182 st11.sub) ?_
  intro r14 w15 h16 le17 st18 q19
  obtain rfl := q19
  refine Z X X X<|zbl X X<|zT (v := (.bool _)) X X X<|zF X X<|Y<|zw<|zb Tryz.results134 ?_
  refine ⟨h16, _, rfl, st18.done, ?_⟩
  refine zx ?_
  rw [letters_eq]
  simp_all [zcK]
 refine M X X X X X<|M X X X X X<|M X X X X X<|zN (v := (.bool _)) X X X<|zF X X<|Y<|zw<|zb Tryz.results134 ?_
 refine ⟨h9, _, rfl, st11.done, ?_⟩
 refine zx ?_
 rw [letters_eq]
 simp_all [zcK]
theorem zjh {h : Heap} {w : World} (hs : Sub h w) {hd : Head} (hd_l1 : hd.stem.length ≤ 281474976710656) (hd_l2 : 0 ≤ hd.mark ∧ hd.mark ≤ 255) : Calls Tryz.prog 186 #[.agg #[strV hd.stem, .int .u8 hd.mark]] w (Rets h w (fun _ _ res_ => res_ = .bool (zea hd))) := by
 refine zP (n := 11) Tryz.func186 X X X<|have st0:=t_s0 hs;W.sr<|zJ st0 (cs := [strV (hd.stem), .int .u8 (hd.mark)]) X X X<|fun b1 w2 h3 le4 hc5 st6=>zF X X<|Y<|W.sr<|E X zbn X zak X X<|U (j := 0) st6.sub hc5 X X X zaD X<|ze st6 X X X Tryz.call134 X (zfj st6.sub _ zbr _)<|fun r7 w8 h9 le10 st11 q12=> ?_
 obtain rfl := q12
 refine zS X X ?_
 refine zaw (d := 6) rfl (fun g13 => ?_) (fun g13 => ?_)
 ·
  refine Z X X X<|E X zbn X zbu X X<|Z X X X<|U (j := 1) st11.sub (hc5.up le10) X X X zbV X<|Z X X X<|zi X X (r_leq X X)<|zT (v := (.bool _)) X X X<|zF X X<|Y<|zw<|zb Tryz.results186 ?_
  refine ⟨h9, _, rfl, st11.done, ?_⟩
  refine zx ?_
  rw [head_eq _ (by omega)]
  simp_all
 refine M X X X X X<|M X X X X X<|M X X X X X<|zN (v := (.bool _)) X X X<|zF X X<|Y<|zw<|zb Tryz.results186 ?_
 refine ⟨h9, _, rfl, st11.done, ?_⟩
 refine zx ?_
 rw [head_eq _ (by omega)]
 simp_all
end Go.Pk
