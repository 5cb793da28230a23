/- A PART OF THE PROOF: contracts of functions, each walked once (much of it printed by a program of the author's own). -/
import Derived.Test.YtfpiiheehdedmaaGreatDoorT5
import Derived.Test.YtfpiiheehdedmaaGreatDoorT3
import Derived.Test.YtfpiiheehdedmaaGreatDoorT2
import Derived.Test.YtfpiiheehdedmaaGreatDoorT9
import Derived.Test.YtfpiiheehdedmaaGreatDoorT6
import Derived.Test.YtfpiiheehdedmaaGreatDoorT8
import Derived.Test.YtfpiiheehdedmaaGreatDoorT7
set_option linter.unusedSimpArgs false
set_option linter.unusedVariables false
set_option maxRecDepth 4000
namespace Go.Pk
open Go Go.RowKit Go.Proofs
theorem zgs {h0 h : Heap} {w0 w : World} {rest : Own} {s : (List Str)} {s_o : List (Nat × Obj)} {s_v : Value} (s_f : OSl LStr 9 h s_v s s_o) (hb : s.length ≤ 281474976710656) (st0 : St h0 w0 h w (s_o :: rest)) : Calls Tryz.prog 120 #[s_v] w (fun e_ w' => ∃ h' s_o' v', e_ = .returned v' ∧ Le h h' ∧ St h0 w0 h' w' (s_o' :: rest) ∧ OSl LStr 9 h' v' (zcI s) s_o') := by
 refine zS (n := 61) Tryz.func120 X X X<|W.sr<|zcz X X<|Y<|zj<|W.sr<|zaa (v := s_v) X X<|zeu s_f X zA X<|zaV X X X<|Y ?_
 refine zH rfl (fun c1 => ?_) (fun c1 => ?_)
 ·
  refine W.sr<|zaa (v := s_v) X X<|zaj (v := s_v) X X<|Y<|zB<|zd<|zc Tryz.results120 ?_
  refine ⟨h, _, _, rfl, (Le.refl _), st0, OSl.to s_f ?_⟩
  exact (comp_short (by omega)).symm
 refine zC<|O<|zj<|W.sr<|zz X X<|Y<|zF ?_
 refine zat ([2, 3, 4, 5] ++ t_rg 10 50) (G := Nat × List (Nat × Obj) × Heap) (fun ⟨k, o_0, h2⟩ => [(3, .int .i64 (k : Int))]) (fun ⟨k, o_0, h2⟩ w' => Le h h2 ∧ St h0 w0 h2 w' (o_0 :: rest) ∧ (OSl LStr 9 h2 s_v (s) o_0) ∧ (1 ≤ k ∧ k ≤ s.length) ∧ (zcI (s.take k) = s.take k)) (fun ⟨k, o_0, h2⟩ => s.length - k) ⟨1, s_o, h⟩ ⟨rfl, trivial⟩ ⟨Le.refl _, st0, (OSl.to s_f (by rfl)), (by exact ⟨by omega, by omega⟩), (by exact comp_one (by omega))⟩ ?_
 rintro ⟨k, o_0, h2⟩ _ w5 ⟨le3, st4, hO_0, hk, hc⟩
 refine zj<|W.sr<|zk X X<|zaa (v := s_v) X X<|zeu hO_0 X zA X<|zaV X X X<|Y ?_
 refine zH rfl (fun c6 => ?_) (fun c6 => ?_)
 ·
  refine zC<|O<|zj<|zF<|zj<|zbj Tryz.mixed t_kr (Cls h2 _) (Cls.drew st4)<|zdn (v := s_v) X X<|zbJ X X ?_
  obtain ⟨y, hy⟩ : ∃ y_, (s)[k]? = some y_ := t_ge (by omega)
  obtain ⟨b7, o8, cur9, _, e12, he10, hr_y, hc11⟩ := OSl.elem hO_0 hy
  subst e12
  obtain ⟨rfl, ls13⟩ := hr_y
  simp only [big] at ls13
  refine zaG he10 X X (hk := X) (hu := zA) (hz := zW) X<|zl X X (fun _ hC => (zct (j := 0) (hC.block (st4.get (k := 0) X)) hc11 X X X zaw))<|zdn (v := s_v) X X<|zbJ X X<|zig X X t_om X ?_
  obtain ⟨z, hz⟩ : ∃ y_, (s)[k - 1]? = some y_ := t_ge (by omega)
  obtain ⟨b14, o15, cur16, _, e19, he17, hr_z, hc18⟩ := OSl.elem hO_0 hz
  obtain ⟨hb20, hc21⟩ : b7 = b14 ∧ cur9 = cur16 := by cases e19; exact ⟨rfl, rfl⟩
  subst hb20
  subst hc21
  obtain ⟨rfl, ls22⟩ := hr_z
  simp only [big] at ls22
  refine zl rfl rfl (fun _ _ => (zao he17 rfl rfl (hk := (show _ = ((k - 1 : Nat) : Int) by omega)) (hu := zA) (hz := zW))) ?_
  refine zl X X (fun _ hC => (zct (j := 0) (hC.block (st4.get (k := 0) X)) hc18 X X X zaw))<|u_seql X X X<|zaN ?_
  rintro w23 ⟨h24, s25⟩
  have st26 := st4.call0 s25
  refine O ?_
  refine zH rfl (fun c27 => ?_) (fun c27 => ?_)
  ·
   refine W.sr<|zaa (v := s_v) X X<|zk X X ?_
   refine zq rfl rfl (zgD (hO_0.up s25.le) rfl rfl (hk := (show _ = ((k : Nat) : Int) by omega)) (by omega) zA zW) ?_
   refine zaj (v := (zhp 1 s_v (k))) X X<|Y<|zj<|W.sr<|zz X X<|Y<|zF ?_
   refine zat ([3, 5] ++ t_rg 29 25) (G := Nat × Nat × List Str × List (Nat × Obj) × Heap) (fun ⟨i, k2, ys, o_0, h28⟩ => [(3, .int .i64 (i : Int)), (5, .int .i64 (k2 : Int))]) (fun ⟨i, k2, ys, o_0, h28⟩ w' => Le h24 h28 ∧ St h0 w0 h28 w' (o_0 :: rest) ∧ (OSl LStr 9 h28 s_v (ys) o_0) ∧ (1 ≤ k2 ∧ k + k2 ≤ s.length ∧ ys.length = s.length ∧ i + 1 ≤ k + k2) ∧ (Comp s ys i (k + k2))) (fun ⟨i, k2, ys, o_0, h28⟩ => s.length - (k + k2)) ⟨k, 1, s, [(b7, .cells cur9 9)], h24⟩ ⟨rfl, rfl, trivial⟩ ⟨Le.refl _, st26, (OSl.to (hO_0.up s25.le) (by rfl)), (by exact ⟨by omega, by omega, rfl, by omega⟩), (by exact Comp.start hz hy hk.1 hc (by simpa using c27))⟩ ?_
   rintro ⟨i, k2, ys, o_0, h28⟩ _ w31 ⟨le29, st30, hO_0, hk2, hD⟩
   refine zj<|W.sr<|zk X X<|zaa (v := (zhp 1 s_v (k))) X X<|zq X X (r_len_vdrop X (OSl.form hO_0) zA)<|zaV X X X<|Y ?_
   refine zH rfl (fun c32 => ?_) (fun c32 => ?_)
   ·
    refine zC<|O<|zj<|zF<|zj<|zbj Tryz.mixed t_kr (Cls h28 _) (Cls.drew st30)<|zdn (v := (zhp 1 s_v (k))) X X<|zbJ X X ?_
    obtain ⟨y2, hy2⟩ : ∃ y_, (ys)[k + k2]? = some y_ := t_ge (by omega)
    obtain ⟨b33, o34, cur35, _, e38, he36, hr_y2, hc37⟩ := OSl.elem hO_0 hy2
    subst e38
    obtain ⟨rfl, ls39⟩ := hr_y2
    simp only [big] at ls39
    refine zl rfl rfl (fun _ _ => (zao (Elem.drop' (k := k) (j := k2) he36 (by omega) (OSl.caps hO_0)) rfl rfl (hk := rfl) (hu := zA) (hz := zW))) ?_
    refine zl X X (fun _ hC => (zct (j := 0) (hC.block (st30.get (k := 0) X)) hc37 X X X zaw))<|zdn (v := (zhp 1 s_v (k))) X X<|zbJ X X<|zig X X t_om X ?_
    obtain ⟨z2, hz2⟩ : ∃ y_, (ys)[k + k2 - 1]? = some y_ := t_ge (by omega)
    obtain ⟨b40, o41, cur42, _, e45, he43, hr_z2, hc44⟩ := OSl.elem hO_0 hz2
    obtain ⟨hb46, hc47⟩ : b33 = b40 ∧ cur35 = cur42 := by cases e45; exact ⟨rfl, rfl⟩
    subst hb46
    subst hc47
    obtain ⟨rfl, ls48⟩ := hr_z2
    simp only [big] at ls48
    refine zl rfl rfl (fun _ _ => (zao (Elem.drop' (k := k) (j := k2 - 1) he43 (by omega) (OSl.caps hO_0)) rfl rfl (hk := (show _ = ((k2 - 1 : Nat) : Int) by omega)) (hu := zA) (hz := zW))) ?_
    refine zl X X (fun _ hC => (zct (j := 0) (hC.block (st30.get (k := 0) X)) hc44 X X X zaw))<|zl X X (fun _ _ => (r_sneq X X))<|zaN ?_
    rintro w49 ⟨h50, s51⟩
    have st52 := st30.call0 s51
    refine O ?_
    refine zH rfl (fun c53 => ?_) (fun c53 => ?_)
    ·
     refine W.sr<|zaa (v := s_v) X X<|zk X X<|zaa (v := (zhp 1 s_v (k))) X X<|zk X X ?_
     obtain ⟨b54, o55, cur56, _, e59, he57, hr_y2, hc58⟩ := OSl.elem (hO_0.up s51.le) hy2
     obtain ⟨hb60, hc61⟩ : b33 = b54 ∧ cur35 = cur56 := by cases e59; exact ⟨rfl, rfl⟩
     subst hb60
     subst hc61
     obtain ⟨rfl, ls62⟩ := hr_y2
     simp only [big] at ls62
     refine zq rfl rfl (zao (Elem.drop' (k := k) (j := k2) he57 (by omega) (OSl.caps (hO_0.up s51.le))) rfl rfl (hk := rfl) (hu := zA) (hz := zW)) ?_
     refine zq X X (zct (j := 0) (st52.get (k := 0) X) hc58 X X X zaw) ?_
     obtain ⟨u2, hu2⟩ : ∃ y_, (ys)[i]? = some y_ := t_ge (by omega)
     obtain ⟨b63, o64, cur65, _, e68, he66, hr_u2, hc67⟩ := OSl.elem (hO_0.up s51.le) hu2
     obtain ⟨hb69, hc70⟩ : b33 = b63 ∧ cur35 = cur65 := by cases e68; exact ⟨rfl, rfl⟩
     subst hb69
     subst hc70
     obtain ⟨rfl, ls71⟩ := hr_u2
     simp only [big] at ls71
     refine zq rfl rfl (zao he66 rfl rfl (hk := (show _ = ((i : Nat) : Int) by omega)) (hu := zA) (hz := zW)) ?_
     refine zdi (k := 0) st52 (hO_0.up s51.le) rfl (by omega) he66 rfl rfl (⟨rfl, zba⟩) zW ?_
     intro o72 w73 _ e74 f75 st76
     subst e74
     refine Y<|zo<|zk X X<|zaP X X t_om X<|zz X X<|zt<|zP<|O<|zo<|zk X X<|zaP X X t_om X<|zz X X<|Y ?_
     refine ⟨⟨i + 1, k2 + 1, (ys.set i y2), o72, h50⟩, ⟨rfl, rfl, trivial⟩, ?_, ⟨(le29.trans s51.le), st76, ?_, ?_, ?_⟩, ?_⟩
     ·exact zav
     ·refine OSl.to f75 ?_
      rfl
     ·refine ⟨by omega, by omega, by first | (rw [List.length_set]; omega) | omega, by omega⟩
     ·exact hD.keep hy2 hz2 (by simpa using c53)
     show s.length - (k + ((k2 + 1))) < s.length - (k + k2)
     omega
    refine zC<|zP<|O<|zo<|zk X X<|zaP X X t_om X<|zz X X<|Y ?_
    refine ⟨⟨i, k2 + 1, ys, [(b33, .cells cur35 9)], h50⟩, ⟨rfl, rfl, trivial⟩, ?_, ⟨(le29.trans s51.le), st52, ?_, ?_, ?_⟩, ?_⟩
    ·exact zav
    ·refine OSl.to (hO_0.up s51.le) ?_
     rfl
    ·refine ⟨by omega, by omega, by first | (rw [List.length_set]; omega) | omega, by omega⟩
    ·exact hD.skip hy2 hz2 (by simpa using c53)
    show s.length - (k + ((k2 + 1))) < s.length - (k + k2)
    omega
   refine zaC<|zh<|zh<|zah<|O<|W.sr<|zaa (v := s_v) X X<|zk X X ?_
   refine zq rfl rfl (zgD hO_0 rfl rfl (hk := (show _ = ((i : Nat) : Int) by omega)) (by omega) zA zW) ?_
   refine OpsL.clearTail (k := 0) (j := i) st30 hO_0 rfl (by omega) rfl zA Tryz.zeroValue9 rfl (by decide) ?_
   intro o77 w78 _ e79 f80 st81
   subst e79
   refine Y<|W.sr<|zaa (v := s_v) X X<|zk X X ?_
   refine zq rfl rfl (r_slice_to_own hO_0 rfl rfl (hk := (show _ = ((i : Nat) : Int) by omega)) (by omega) zA zW) ?_
   refine zaj (v := (vtake s_v (i))) X X<|Y<|zB<|zI<|zd<|zd<|zI<|zd<|zc Tryz.results120 ?_
   refine ⟨h28, _, _, rfl, ((le3.trans s25.le).trans le29), st81, OSl.to f80 ?_⟩
   exact hD.fin (by omega)
  refine zC<|zP<|O<|zo<|zk X X<|zaP X X t_om X<|zz X X<|Y ?_
  have l82 := le3.trans s25.le
  refine ⟨⟨k + 1, [(b7, .cells cur9 9)], h24⟩, ⟨rfl, trivial⟩, ?_, ⟨l82, st26, ?_, ?_, ?_⟩, ?_⟩
  ·exact zav
  ·refine OSl.to (hO_0.up s25.le) ?_
   rfl
  ·exact ⟨by omega, by omega⟩
  ·exact comp_more hz hy hk.1 hc (by simpa using c27)
  show s.length - ((k + 1)) < s.length - k
  omega
 refine zaC<|zh<|zh<|zah<|O<|W.sr<|zaa (v := s_v) X X<|zaj (v := s_v) X X<|Y<|zB<|zc Tryz.results120 ?_
 refine ⟨h2, _, _, rfl, le3, st4, OSl.to hO_0 ?_⟩
 rw [List.take_of_length_le (by omega)] at hc; exact hc.symm
end Go.Pk

namespace Go.Pk
open Go Go.RowKit Go.Proofs
theorem c_postilref04_added {h : Heap} {w : World} (hs : Sub h w) {l_v : Value} {l : (List Str)} (l_f : Sl LStr h l_v l) (s : Str) (s_le : s.length ≤ 281474976710656) (hl : l.length ≤ 400000) : Calls Tryz.prog 126 #[l_v, strV s] w (Rets h w (fun h' _ res_ => ∃ u0, res_ = u0 ∧ Sl LStr h' u0 ((insBy sLt l s)))) := by
 refine zS (n := 45) Tryz.func126 X X X<|have st0:=t_s0 hs;have l_f_b:=l_f.le;W.sr<|zcz X X<|Y<|W.sr<|zz X X<|Y<|zj<|zF ?_
 refine zat (t_rg 5 15) (G := Nat × Heap) (fun ⟨k, h1⟩ => [(5, .int .i64 (k : Int))]) (fun ⟨k, h1⟩ w' => Le h h1 ∧ St h w h1 w' [] ∧ (k ≤ l.length) ∧ (∀ j y0, j < k → l[j]? = some y0 → sLt y0 s = true)) (fun ⟨k, h1⟩ => l.length - k) ⟨0, h⟩ ⟨rfl, trivial⟩ ⟨Le.refl _, st0, zaM, (by intro j _ hj; omega)⟩ ?_
 rintro ⟨k, h1⟩ _ w4 ⟨le2, st3, hk, hb⟩
 refine zj<|W.sr<|zk X X<|zaa (v := l_v) X X<|zaJ (l_f.up le2) X zA X<|zaV X X X<|zai X X ?_
 refine zaB (d := 10) rfl (fun g5 => ?_) (fun g5 => ?_)
 ·
  refine M X X X<|zaa (v := l_v) X X<|M X X X<|zk X X<|M X X X ?_
  obtain ⟨y, hy⟩ : ∃ y_, (l)[k]? = some y_ := t_ge (by omega)
  obtain ⟨b6, o7, _, he9, hc8, hr_y⟩ := Sl.elem (l_f.up le2) hy
  obtain ⟨rfl, ls10⟩ := hr_y
  simp only [big] at ls10
  refine zV he9 X X (hk := X) (hu := zA) (hz := zW) X<|M X X X<|E (j := 0) st3.sub hc8 X X X zaw X<|M X X X<|zbX X X<|M X X X<|zq X X (r_slss X X)<|zaf (v := (.bool _)) X X X<|Y ?_
  refine zad rfl (fun c11 => ?_) (fun c11 => ?_)
  ·
   refine zC<|O<|zF<|zo<|zk X X<|zaP X X t_om X<|zz X X<|zt<|zP<|O ?_
   refine ⟨⟨k + 1, h1⟩, ⟨rfl, trivial⟩, ?_, ⟨le2, st3, ?_, ?_⟩, ?_⟩
   ·exact zav
   ·first | omega | (simp; omega)
   ·intro j y0 hj h0
    rcases Nat.lt_or_ge j k with q | q
    ·exact hb j y0 q h0
    ·obtain rfl : j = k := by omega
     rw [hy] at h0; cases h0; simpa [sLt] using c11
   show l.length - ((k + 1)) < l.length - k
   omega
  refine zaC<|zh<|zh<|zah<|O<|zj<|zj ?_
  have h2 : ∀ y0, (l)[k]? = some y0 → sLt y0 s = false := by
   intro y0 h0
   first
    | (exfalso; have := (List.getElem?_eq_some_iff.1 h0).1; omega)
    | (rw [hy] at h0; cases h0; first | assumption | (simp_all [sLt]; done) | (simp_all; done))
  refine zo<|zk X X<|zaa (v := l_v) X X<|zaJ (l_f.up le2) X zA X<|zaV X X X<|zai X X ?_
  refine zaB (d := 24) rfl (fun g12 => ?_) (fun g12 => ?_)
  ·
   refine M X X X<|zaa (v := l_v) X X<|M X X X<|zk X X<|M X X X<|zV he9 X X (hk := X) (hu := zA) (hz := zW) X<|M X X X<|E (j := 0) st3.sub hc8 X X X zaw X<|M X X X<|zbX X X<|M X X X<|zhq X X X<|zaf (v := (.bool _)) X X X<|Y ?_
   refine zH rfl (fun c13 => ?_) (fun c13 => ?_)
   ·
    refine W.sr<|zaa (v := l_v) X X<|zaj (v := l_v) X X<|Y<|zB<|zd<|zc zfq ?_
    refine ⟨h1, _, rfl, st3.done, ?_⟩
    refine ⟨_, rfl, Sl.to (l_f.up le2) ?_⟩
    exact (insBy_old hb h2 (by simp_all)).symm
   refine zC<|O<|zj ?_
   have f14 := Sl.take l_f (k := k) (by omega)
   have f15 := Sl.drop l_f (k := k) (by omega)
   refine zbh (er := ([], [], [], [], 0)) (dsts := [33, 34, 35, 36, 37, 38, 39, 40, 41, 42, 43, 44, 4]) st3 Tryz.mixed ?_
   refine zax 0 (.res (fun _ res_ => ∃ p, res_ = .slice p 0 0) (fun _ _ _ _ f => f)) [] rfl t_kr t_kr ?_ ?_
   ·
    intro hD wD τD hL hS hO 
    have st16 := St.start hS
    refine zfj st16 X ⟨_, zW⟩ zA<|fun v17 w18 f19 st20=> ?_
    exact zt ⟨_, _, rfl, st20, _, rfl, f19⟩
   refine zf 1 [] X t_kr t_kr X X (fun hD wD τD hL hS hO  => (zdp (v := l_v) X))<|zf 2 [] X t_kr t_kr X X (fun hD wD τD hL hS hO  => (zdP X)) ?_
   refine zf 3 [1, 0] rfl t_kr t_kr rfl rfl (fun hD wD τD hL hS hO _ _ _ _ => (zfD (l_f.up le2) rfl rfl (hk := rfl) (by omega) zA zW)) ?_
   refine zbx<|zf 5 [] X t_kr t_kr X X (fun hD wD τD hL hS hO  => (r_mvS X)) ?_
   refine zax 6 (.res (fun h' res_ => Sl LStr h' res_ ([s])) (fun _ _ _ hl f => f.up hl)) [0] rfl t_kr t_kr ?_ ?_
   ·
    intro hD wD τD hL hS hO _ _
    have st21 := St.start hS
    refine zaL (L := LStr) (xs := [s]) (cs := [strV s]) st21 (Enc.cons (L := LStr) (vs := [strV s]) (x := s) (h := hD) (⟨rfl, zba⟩) Enc.nil) X X X zA Tryz.info9 X X X t_kr<|fun v22 w23 h26 le27 f24 st25=> ?_
    exact zt ⟨_, _, rfl, st25, _, rfl, f24⟩
   refine zbx<|zf 8 [] X t_kr t_kr X X (fun hD wD τD hL hS hO  => (zdp (v := l_v) X))<|zf 9 [] X t_kr t_kr X X (fun hD wD τD hL hS hO  => (zdP X)) ?_
   refine zf 10 [1, 0] rfl t_kr t_kr rfl rfl (fun hD wD τD hL hS hO _ _ _ _ => (zfJ (l_f.up le2) rfl rfl (hk := rfl) (by omega) zA zW)) ?_
   refine zbx<|zbx<|zbN X X X X X X ⟨t_kr, X, t_kr, X, t_kr, X, X, t_kr, (zbe X (zbe X (zbe X (zbe X zcl))))⟩<|fun hE29 w30 _ le31 st32 gv0_x28 gf0_x28 _ _=> ?_
   have st33 := st32.snoc
   have f34 := OSl.nil LStr 9 hE29
   have f35 := OSl.nil0 LStr 9 hE29 gf0_x28
   have l42 := le2.trans le31
   refine zaR (k := 0) (nb := 16) st33 f35 rfl (f14.up l42) rfl rfl rfl zA Tryz.info9 rfl rfl rfl (by decide) rfl zep zep ?_
   intro v36 o37 w38 _ e39 f40 st41
   subst e39
   refine zt ⟨_, rfl, _, _, Le.refl _, st41, ?_⟩
   intro hE44 w45 _ le46 st47 gv6_0x43 gf6_0x43
   refine zaR (k := 0) (nb := 16) st47 (f40.up le46) rfl gf6_0x43 rfl rfl rfl zA Tryz.info9 rfl rfl rfl (by decide) rfl zep zep ?_
   intro v48 o49 w50 _ e51 f52 st53
   subst e51
   refine zt ⟨_, rfl, _, _, Le.refl _, st53, ?_⟩
   intro hE55 w56 _ le57 st58 _ _
   have l65 := (l42.trans le46).trans le57
   refine zaR (k := 0) (nb := 16) st58 (f52.up le57) rfl (f15.up l65) rfl rfl rfl zA Tryz.info9 rfl rfl rfl (by decide) rfl zep zep ?_
   intro v59 o60 w61 _ e62 f63 st64
   subst e62
   refine zt ⟨_, rfl, _, _, Le.refl _, st64, ?_⟩
   intro hE67 w68 _ le69 st70 gv0_x66 gf0_x66 _ _ _ _ _ _ _ _ gv6_0x66 gf6_0x66 _ _ _ _ _ _
   refine zaj (v := v59) X X ?_
   refine zt ⟨_, rfl, _, _, Le.refl _, st70, ?_⟩
   intro hE71 w72 _ le73 st74 gv0_x75 gf0_x75 _ _ _ _ _ _ _ _ gv6_0x75 gf6_0x75 _ _ _ _ _ _
   refine AllDeps.fin X<|O<|zB<|zc zfq ?_
   obtain ⟨h76, le77, f78, st79⟩ := OSl.freeze (k := 0) st74 (f63.up (le69.trans le73)) rfl zep
   refine ⟨h76, _, rfl, st79.done, ?_⟩
   refine ⟨_, rfl, Sl.to f78 ?_⟩
   exact (insBy_new hb h2 (by simp_all)).symm
  refine Z X X X X X<|Z X X X X X<|Z X X X X X<|Z X X X X X<|Z X X X X X<|Z X X X X X<|zX (v := (.bool _)) X X X<|Y ?_
  refine zad rfl (fun c80 => ?_) (fun c80 => ?_)
  ·
   cases c80
  refine zC<|O<|zj ?_
  have f81 := Sl.take l_f (k := k) (by omega)
  have f82 := Sl.drop l_f (k := k) (by omega)
  refine zbh (er := ([], [], [], [], 0)) (dsts := [33, 34, 35, 36, 37, 38, 39, 40, 41, 42, 43, 44, 4]) st3 Tryz.mixed ?_
  refine zax 0 (.res (fun _ res_ => ∃ p, res_ = .slice p 0 0) (fun _ _ _ _ f => f)) [] rfl t_kr t_kr ?_ ?_
  ·
   intro hD wD τD hL hS hO 
   have st83 := St.start hS
   refine zfj st83 X ⟨_, zW⟩ zA<|fun v84 w85 f86 st87=> ?_
   exact zt ⟨_, _, rfl, st87, _, rfl, f86⟩
  refine zf 1 [] X t_kr t_kr X X (fun hD wD τD hL hS hO  => (zdp (v := l_v) X))<|zf 2 [] X t_kr t_kr X X (fun hD wD τD hL hS hO  => (zdP X)) ?_
  refine zf 3 [1, 0] rfl t_kr t_kr rfl rfl (fun hD wD τD hL hS hO _ _ _ _ => (zfD (l_f.up le2) rfl rfl (hk := rfl) (by omega) zA zW)) ?_
  refine zbx<|zf 5 [] X t_kr t_kr X X (fun hD wD τD hL hS hO  => (r_mvS X)) ?_
  refine zax 6 (.res (fun h' res_ => Sl LStr h' res_ ([s])) (fun _ _ _ hl f => f.up hl)) [0] rfl t_kr t_kr ?_ ?_
  ·
   intro hD wD τD hL hS hO _ _
   have st88 := St.start hS
   refine zaL (L := LStr) (xs := [s]) (cs := [strV s]) st88 (Enc.cons (L := LStr) (vs := [strV s]) (x := s) (h := hD) (⟨rfl, zba⟩) Enc.nil) X X X zA Tryz.info9 X X X t_kr<|fun v89 w90 h93 le94 f91 st92=> ?_
   exact zt ⟨_, _, rfl, st92, _, rfl, f91⟩
  refine zbx<|zf 8 [] X t_kr t_kr X X (fun hD wD τD hL hS hO  => (zdp (v := l_v) X))<|zf 9 [] X t_kr t_kr X X (fun hD wD τD hL hS hO  => (zdP X)) ?_
  refine zf 10 [1, 0] rfl t_kr t_kr rfl rfl (fun hD wD τD hL hS hO _ _ _ _ => (zfJ (l_f.up le2) rfl rfl (hk := rfl) (by omega) zA zW)) ?_
  refine zbx<|zbx<|zbN X X X X X X ⟨t_kr, X, t_kr, X, t_kr, X, X, t_kr, (zbe X (zbe X (zbe X (zbe X zcl))))⟩<|fun hE96 w97 _ le98 st99 gv0_x95 gf0_x95 _ _=> ?_
  have st100 := st99.snoc
  have f101 := OSl.nil LStr 9 hE96
  have f102 := OSl.nil0 LStr 9 hE96 gf0_x95
  have l109 := le2.trans le98
  refine zaR (k := 0) (nb := 16) st100 f102 rfl (f81.up l109) rfl rfl rfl zA Tryz.info9 rfl rfl rfl (by decide) rfl zep zep ?_
  intro v103 o104 w105 _ e106 f107 st108
  subst e106
  refine zt ⟨_, rfl, _, _, Le.refl _, st108, ?_⟩
  intro hE111 w112 _ le113 st114 gv6_0x110 gf6_0x110
  refine zaR (k := 0) (nb := 16) st114 (f107.up le113) rfl gf6_0x110 rfl rfl rfl zA Tryz.info9 rfl rfl rfl (by decide) rfl zep zep ?_
  intro v115 o116 w117 _ e118 f119 st120
  subst e118
  refine zt ⟨_, rfl, _, _, Le.refl _, st120, ?_⟩
  intro hE122 w123 _ le124 st125 _ _
  have l132 := (l109.trans le113).trans le124
  refine zaR (k := 0) (nb := 16) st125 (f119.up le124) rfl (f82.up l132) rfl rfl rfl zA Tryz.info9 rfl rfl rfl (by decide) rfl zep zep ?_
  intro v126 o127 w128 _ e129 f130 st131
  subst e129
  refine zt ⟨_, rfl, _, _, Le.refl _, st131, ?_⟩
  intro hE134 w135 _ le136 st137 gv0_x133 gf0_x133 _ _ _ _ _ _ _ _ gv6_0x133 gf6_0x133 _ _ _ _ _ _
  refine zaj (v := v126) X X ?_
  refine zt ⟨_, rfl, _, _, Le.refl _, st137, ?_⟩
  intro hE138 w139 _ le140 st141 gv0_x142 gf0_x142 _ _ _ _ _ _ _ _ gv6_0x142 gf6_0x142 _ _ _ _ _ _
  refine AllDeps.fin X<|O<|zB<|zc zfq ?_
  obtain ⟨h143, le144, f145, st146⟩ := OSl.freeze (k := 0) st141 (f130.up (le136.trans le140)) rfl zep
  refine ⟨h143, _, rfl, st146.done, ?_⟩
  refine ⟨_, rfl, Sl.to f145 ?_⟩
  exact (insBy_new hb h2 (by simp_all)).symm
 refine Z X X X X X<|Z X X X X X<|Z X X X X X<|Z X X X X X<|Z X X X X X<|Z X X X X X<|zX (v := (.bool _)) X X X<|Y ?_
 refine zad rfl (fun c147 => ?_) (fun c147 => ?_)
 ·
  cases c147
 refine zaC<|zh<|zh<|zah<|O<|zj<|zj ?_
 have h2 : ∀ y0, (l)[k]? = some y0 → sLt y0 s = false := by
  intro y0 h0
  first
   | (exfalso; have := (List.getElem?_eq_some_iff.1 h0).1; omega)
   | (rw [hy] at h0; cases h0; first | assumption | (simp_all [sLt]; done) | (simp_all; done))
 refine zo<|zk X X<|zaa (v := l_v) X X<|zaJ (l_f.up le2) X zA X<|zaV X X X<|zai X X ?_
 refine zaB (d := 24) rfl (fun g148 => ?_) (fun g148 => ?_)
 ·
  refine M X X X<|zaa (v := l_v) X X<|M X X X<|zk X X<|M X X X ?_
  obtain ⟨y, hy⟩ : ∃ y_, (l)[k]? = some y_ := t_ge (by omega)
  obtain ⟨b149, o150, _, he152, hc151, hr_y⟩ := Sl.elem (l_f.up le2) hy
  obtain ⟨rfl, ls153⟩ := hr_y
  simp only [big] at ls153
  refine zV he152 X X (hk := X) (hu := zA) (hz := zW) X<|M X X X<|E (j := 0) st3.sub hc151 X X X zaw X<|M X X X<|zbX X X<|M X X X<|zhq X X X<|zaf (v := (.bool _)) X X X<|Y ?_
  refine zH rfl (fun c154 => ?_) (fun c154 => ?_)
  ·
   refine W.sr<|zaa (v := l_v) X X<|zaj (v := l_v) X X<|Y<|zB<|zd<|zc zfq ?_
   refine ⟨h1, _, rfl, st3.done, ?_⟩
   refine ⟨_, rfl, Sl.to (l_f.up le2) ?_⟩
   exact (insBy_old hb h2 (by simp_all)).symm
  refine zC<|O<|zj ?_
  have f155 := Sl.take l_f (k := k) (by omega)
  have f156 := Sl.drop l_f (k := k) (by omega)
  refine zbh (er := ([], [], [], [], 0)) (dsts := [33, 34, 35, 36, 37, 38, 39, 40, 41, 42, 43, 44, 4]) st3 Tryz.mixed ?_
  refine zax 0 (.res (fun _ res_ => ∃ p, res_ = .slice p 0 0) (fun _ _ _ _ f => f)) [] rfl t_kr t_kr ?_ ?_
  ·
   intro hD wD τD hL hS hO 
   have st157 := St.start hS
   refine zfj st157 X ⟨_, zW⟩ zA<|fun v158 w159 f160 st161=> ?_
   exact zt ⟨_, _, rfl, st161, _, rfl, f160⟩
  refine zf 1 [] X t_kr t_kr X X (fun hD wD τD hL hS hO  => (zdp (v := l_v) X))<|zf 2 [] X t_kr t_kr X X (fun hD wD τD hL hS hO  => (zdP X)) ?_
  refine zf 3 [1, 0] rfl t_kr t_kr rfl rfl (fun hD wD τD hL hS hO _ _ _ _ => (zfD (l_f.up le2) rfl rfl (hk := rfl) (by omega) zA zW)) ?_
  refine zbx<|zf 5 [] X t_kr t_kr X X (fun hD wD τD hL hS hO  => (r_mvS X)) ?_
  refine zax 6 (.res (fun h' res_ => Sl LStr h' res_ ([s])) (fun _ _ _ hl f => f.up hl)) [0] rfl t_kr t_kr ?_ ?_
  ·
   intro hD wD τD hL hS hO _ _
   have st162 := St.start hS
   refine zaL (L := LStr) (xs := [s]) (cs := [strV s]) st162 (Enc.cons (L := LStr) (vs := [strV s]) (x := s) (h := hD) (⟨rfl, zba⟩) Enc.nil) X X X zA Tryz.info9 X X X t_kr<|fun v163 w164 h167 le168 f165 st166=> ?_
   exact zt ⟨_, _, rfl, st166, _, rfl, f165⟩
  refine zbx<|zf 8 [] X t_kr t_kr X X (fun hD wD τD hL hS hO  => (zdp (v := l_v) X))<|zf 9 [] X t_kr t_kr X X (fun hD wD τD hL hS hO  => (zdP X)) ?_
  refine zf 10 [1, 0] rfl t_kr t_kr rfl rfl (fun hD wD τD hL hS hO _ _ _ _ => (zfJ (l_f.up le2) rfl rfl (hk := rfl) (by omega) zA zW)) ?_
  refine zbx<|zbx<|zbN X X X X X X ⟨t_kr, X, t_kr, X, t_kr, X, X, t_kr, (zbe X (zbe X (zbe X (zbe X zcl))))⟩<|fun hE170 w171 _ le172 st173 gv0_x169 gf0_x169 _ _=> ?_
  have st174 := st173.snoc
  have f175 := OSl.nil LStr 9 hE170
  have f176 := OSl.nil0 LStr 9 hE170 gf0_x169
  have l183 := le2.trans le172
  refine zaR (k := 0) (nb := 16) st174 f176 rfl (f155.up l183) rfl rfl rfl zA Tryz.info9 rfl rfl rfl (by decide) rfl zep zep ?_
  intro v177 o178 w179 _ e180 f181 st182
  subst e180
  refine zt ⟨_, rfl, _, _, Le.refl _, st182, ?_⟩
  intro hE185 w186 _ le187 st188 gv6_0x184 gf6_0x184
  refine zaR (k := 0) (nb := 16) st188 (f181.up le187) rfl gf6_0x184 rfl rfl rfl zA Tryz.info9 rfl rfl rfl (by decide) rfl zep zep ?_
  intro v189 o190 w191 _ e192 f193 st194
  subst e192
  refine zt ⟨_, rfl, _, _, Le.refl _, st194, ?_⟩
  intro hE196 w197 _ le198 st199 _ _
  have l206 := (l183.trans le187).trans le198
  refine zaR (k := 0) (nb := 16) st199 (f193.up le198) rfl (f156.up l206) rfl rfl rfl zA Tryz.info9 rfl rfl rfl (by decide) rfl zep zep ?_
  intro v200 o201 w202 _ e203 f204 st205
  subst e203
  refine zt ⟨_, rfl, _, _, Le.refl _, st205, ?_⟩
  intro hE208 w209 _ le210 st211 gv0_x207 gf0_x207 _ _ _ _ _ _ _ _ gv6_0x207 gf6_0x207 _ _ _ _ _ _
  refine zaj (v := v200) X X ?_
  refine zt ⟨_, rfl, _, _, Le.refl _, st211, ?_⟩
  intro hE212 w213 _ le214 st215 gv0_x216 gf0_x216 _ _ _ _ _ _ _ _ gv6_0x216 gf6_0x216 _ _ _ _ _ _
  refine AllDeps.fin X<|O<|zB<|zc zfq ?_
  obtain ⟨h217, le218, f219, st220⟩ := OSl.freeze (k := 0) st215 (f204.up (le210.trans le214)) rfl zep
  refine ⟨h217, _, rfl, st220.done, ?_⟩
  refine ⟨_, rfl, Sl.to f219 ?_⟩
  exact (insBy_new hb h2 (by simp_all)).symm
 refine Z X X X X X<|Z X X X X X<|Z X X X X X<|Z X X X X X<|Z X X X X X<|Z X X X X X<|zX (v := (.bool _)) X X X<|Y ?_
 refine zad rfl (fun c221 => ?_) (fun c221 => ?_)
 ·
  cases c221
 refine zC<|O<|zj ?_
 have f222 := Sl.take l_f (k := k) (by omega)
 have f223 := Sl.drop l_f (k := k) (by omega)
 refine zbh (er := ([], [], [], [], 0)) (dsts := [33, 34, 35, 36, 37, 38, 39, 40, 41, 42, 43, 44, 4]) st3 Tryz.mixed ?_
 refine zax 0 (.res (fun _ res_ => ∃ p, res_ = .slice p 0 0) (fun _ _ _ _ f => f)) [] rfl t_kr t_kr ?_ ?_
 ·
  intro hD wD τD hL hS hO 
  have st224 := St.start hS
  refine zfj st224 X ⟨_, zW⟩ zA<|fun v225 w226 f227 st228=> ?_
  exact zt ⟨_, _, rfl, st228, _, rfl, f227⟩
 refine zf 1 [] X t_kr t_kr X X (fun hD wD τD hL hS hO  => (zdp (v := l_v) X))<|zf 2 [] X t_kr t_kr X X (fun hD wD τD hL hS hO  => (zdP X)) ?_
 refine zf 3 [1, 0] rfl t_kr t_kr rfl rfl (fun hD wD τD hL hS hO _ _ _ _ => (zfD (l_f.up le2) rfl rfl (hk := rfl) (by omega) zA zW)) ?_
 refine zbx<|zf 5 [] X t_kr t_kr X X (fun hD wD τD hL hS hO  => (r_mvS X)) ?_
 refine zax 6 (.res (fun h' res_ => Sl LStr h' res_ ([s])) (fun _ _ _ hl f => f.up hl)) [0] rfl t_kr t_kr ?_ ?_
 ·
  intro hD wD τD hL hS hO _ _
  have st229 := St.start hS
  refine zaL (L := LStr) (xs := [s]) (cs := [strV s]) st229 (Enc.cons (L := LStr) (vs := [strV s]) (x := s) (h := hD) (⟨rfl, zba⟩) Enc.nil) X X X zA Tryz.info9 X X X t_kr<|fun v230 w231 h234 le235 f232 st233=> ?_
  exact zt ⟨_, _, rfl, st233, _, rfl, f232⟩
 refine zbx<|zf 8 [] X t_kr t_kr X X (fun hD wD τD hL hS hO  => (zdp (v := l_v) X))<|zf 9 [] X t_kr t_kr X X (fun hD wD τD hL hS hO  => (zdP X)) ?_
 refine zf 10 [1, 0] rfl t_kr t_kr rfl rfl (fun hD wD τD hL hS hO _ _ _ _ => (zfJ (l_f.up le2) rfl rfl (hk := rfl) (by omega) zA zW)) ?_
 refine zbx<|zbx<|zbN X X X X X X ⟨t_kr, X, t_kr, X, t_kr, X, X, t_kr, (zbe X (zbe X (zbe X (zbe X zcl))))⟩<|fun hE237 w238 _ le239 st240 gv0_x236 gf0_x236 _ _=> ?_
 have st241 := st240.snoc
 have f242 := OSl.nil LStr 9 hE237
 have f243 := OSl.nil0 LStr 9 hE237 gf0_x236
 have l250 := le2.trans le239
 refine zaR (k := 0) (nb := 16) st241 f243 rfl (f222.up l250) rfl rfl rfl zA Tryz.info9 rfl rfl rfl (by decide) rfl zep zep ?_
 intro v244 o245 w246 _ e247 f248 st249
 subst e247
 refine zt ⟨_, rfl, _, _, Le.refl _, st249, ?_⟩
 intro hE252 w253 _ le254 st255 gv6_0x251 gf6_0x251
 refine zaR (k := 0) (nb := 16) st255 (f248.up le254) rfl gf6_0x251 rfl rfl rfl zA Tryz.info9 rfl rfl rfl (by decide) rfl zep zep ?_
 intro v256 o257 w258 _ e259 f260 st261
 subst e259
 refine zt ⟨_, rfl, _, _, Le.refl _, st261, ?_⟩
 intro hE263 w264 _ le265 st266 _ _
 have l273 := (l250.trans le254).trans le265
 refine zaR (k := 0) (nb := 16) st266 (f260.up le265) rfl (f223.up l273) rfl rfl rfl zA Tryz.info9 rfl rfl rfl (by decide) rfl zep zep ?_
 intro v267 o268 w269 _ e270 f271 st272
 subst e270
 refine zt ⟨_, rfl, _, _, Le.refl _, st272, ?_⟩
 intro hE275 w276 _ le277 st278 gv0_x274 gf0_x274 _ _ _ _ _ _ _ _ gv6_0x274 gf6_0x274 _ _ _ _ _ _
 refine zaj (v := v267) X X ?_
 refine zt ⟨_, rfl, _, _, Le.refl _, st278, ?_⟩
 intro hE279 w280 _ le281 st282 gv0_x283 gf0_x283 _ _ _ _ _ _ _ _ gv6_0x283 gf6_0x283 _ _ _ _ _ _
 refine AllDeps.fin X<|O<|zB<|zc zfq ?_
 obtain ⟨h284, le285, f286, st287⟩ := OSl.freeze (k := 0) st282 (f271.up (le277.trans le281)) rfl zep
 refine ⟨h284, _, rfl, st287.done, ?_⟩
 refine ⟨_, rfl, Sl.to f286 ?_⟩
 exact (insBy_new hb h2 (by simp_all)).symm
end Go.Pk

namespace Go.Pk
open Go Go.RowKit Go.Proofs
end Go.Pk

namespace Go.Pk
open Go Go.RowKit Go.Proofs
end Go.Pk

namespace Go.Pk
open Go Go.RowKit Go.Proofs
theorem c_stem_Add {h : Heap} {w : World} (hs : Sub h w) {t : Text} {t_v0 : Value} (t_f0 : Sl LChapter h t_v0 t.chapters) {x : Lexicon} {x_v0 : Value} (x_f0 : Sl LRule h x_v0 x.rules) {x_v1 : Value} (x_f1 : Sl LDecision h x_v1 x.decisions) {d : Decision} (d_l2 : 0 ≤ d.kind ∧ d.kind ≤ 255) (d_l3 : d.form.length ≤ 281474976710656) (d_l7 : d.to.stem.length ≤ 281474976710656) (d_l8 : 0 ≤ d.to.mark ∧ d.to.mark ≤ 255) (K1 : Cells h 1 0 Tryz.glob1) : Calls Tryz.prog 80 #[.agg #[t_v0], .agg #[x_v0, x_v1], .agg #[.int .i64 d.number, .int .u8 d.kind, strV d.form, .int .i64 d.at_.chapter, .int .i64 d.at_.line, .int .i64 d.at_.word, strV d.to.stem, .int .u8 d.to.mark, .int .i64 d.of_]] w (fun e_ w' => ∃ h' v0_ v1_ o0_ o1_, e_ = .returned (.tuple #[.agg #[v0_, v1_], .int .i64 (addE t x d)]) ∧ Le h h' ∧ St h w h' w' [o0_, o1_] ∧ OSl LRule 68 h' v0_ (((addN t x d)).rules) o0_ ∧ OSl LDecision 74 h' v1_ (((addN t x d)).decisions) o1_) := by
 refine zS (n := 41) Tryz.func80 X X X<|have st0:=t_s0 hs;have t_f0_b:=t_f0.le;have x_f0_b:=x_f0.le;have x_f1_b:=x_f1.le;W.sr<|zG st0 (cs := [t_v0]) X X X<|fun b1 w2 h3 le4 hc5 st6=>zG st6 (cs := [x_v0, x_v1]) X X X<|fun b7 w8 h9 le10 hc11 st12=>zG st12 (cs := [.int .i64 (d.number), .int .u8 (d.kind), strV (d.form), .int .i64 (d.at_.chapter), .int .i64 (d.at_.line), .int .i64 (d.at_.word), strV (d.to.stem), .int .u8 (d.to.mark), .int .i64 (d.of_)]) X X X<|fun b13 w14 h15 le16 hc17 st18=>zae st18 zcR X X<|fun b19 w20 st21=>zz X X<|Y<|zj<|W.sr<|zy st21.sub (hc5.up (le10.trans le16)) X zaO zac X X<|zy st21.sub (hc11.up le16) X zaK zR X X<|have l22:=(le4.trans le10).trans le16;zn st21 X X X Tryz.call96 X (zhh st21.sub (t := t) (t_f0.up l22) (x := x) (x_f0.up l22) (x_f1.up l22) (K1.up l22))<|fun r23 w24 h25 le26 st27 q28=> ?_
 obtain rfl := q28
 refine zz X X<|Y<|W.sr<|zk X X<|zcF X X X<|Y ?_
 refine zH rfl (fun c29 => ?_) (fun c29 => ?_)
 ·
  refine W.sr<|zq X X (zbW (cs := [(.slice none 0 0), (.slice none 0 0)]) t_kr)<|zk X X<|zM st27 (k := 0) X X X (za X (za X zap)) zR X X X<|fun w30 st31=>zz X X<|Y<|zB<|zd<|zbF Tryz.results80 X zaK zR X (st31.get (k := 0) X) ?_
  have st32 := st31.snoc
  have f33 := OSl.nil LRule 68 h25
  have st34 := st32.snoc
  have f35 := OSl.nil LDecision 74 h25
  refine ⟨h25, (.slice none 0 0), (.slice none 0 0), _, _, congrArg Ending.returned (tup2 rfl (zar ?_)), (l22.trans le26), st34.sublist (own' := [[], []]) (.cons _ (.cons_cons _ (.cons_cons _ (.slnil)))), OSl.to f33 ?_, OSl.to f35 ?_⟩
  all_goals (obtain ⟨q1, q2⟩ := addE_bad (d := d) c29)
  ·exact q1.symm
  ·rw [q2]; rfl
  rw [q2]; rfl
 refine zC<|O<|zj<|zj ?_
 have hx0 : zaQ t x = 0 := by simpa using c29
 have hdl := zeF hx0
 have hrl := zhx hx0
 refine zo<|U X zQ X zaS X X<|E (j := 1) st27.sub (hc11.up (le16.trans le26)) X X X zbr X<|have l36:=l22.trans le26;zaJ (x_f1.up l36) X zU X<|zee X X X<|Y ?_
 refine zH rfl (fun c37 => ?_) (fun c37 => ?_)
 ·
  refine W.sr<|zq X X (zbW (cs := [(.slice none 0 0), (.slice none 0 0)]) t_kr)<|zM st27 (k := 0) X X X (za X (za X zap)) zR X X X<|fun w38 st39=>zz X X<|Y<|zB<|zd<|zbF Tryz.results80 X zaK zR X (st39.get (k := 0) X) ?_
  have st40 := st39.snoc
  have f41 := OSl.nil LRule 68 h25
  have st42 := st40.snoc
  have f43 := OSl.nil LDecision 74 h25
  refine ⟨h25, (.slice none 0 0), (.slice none 0 0), _, _, congrArg Ending.returned (tup2 rfl (zar ?_)), l36, st42.sublist (own' := [[], []]) (.cons _ (.cons_cons _ (.cons_cons _ (.slnil)))), OSl.to f41 ?_, OSl.to f43 ?_⟩
  all_goals (obtain ⟨q1, q2⟩ := addE_full (d := d) hx0 (by have q := c37; omega))
  ·exact q1.symm
  ·rw [q2]; rfl
  rw [q2]; rfl
 refine zC<|O<|zj<|zbh (er := ([], [], [], [10], 4)) (dsts := [22, 23, 24, 25, 26, 27, 28, 29, 30, 31, 9]) st27 Tryz.mixed<|zf 0 [] X t_kr t_kr X X (fun hD wD τD hL hS hO  => (zL X zQ X zbP X))<|zf 1 [0] X t_kr t_kr X X (fun hD wD τD hL hS hO _ _ => (ze (j := 0) (hL.sub hS) (hc11.up (le16.trans le26)) X X X zcs))<|zbx<|zf 3 [] X t_kr t_kr X X (fun hD wD τD hL hS hO  => (zL X zQ X zaS X))<|zf 4 [0] X t_kr t_kr X X (fun hD wD τD hL hS hO _ _ => (ze (j := 1) (hL.sub hS) (hc11.up (le16.trans le26)) X X X zbr))<|zbx<|zf 6 [] X t_kr t_kr X X (fun hD wD τD hL hS hO  => (zZ (hL.sub hS) (hc17.up le26) X zaI zK X)) ?_
 refine zax 7 (.res (fun h' res_ => Sl LDecision h' res_ ([d])) (fun _ _ _ hl f => f.up hl)) [0] rfl t_kr t_kr ?_ ?_
 ·
  intro hD wD τD hL hS hO _ _
  have st44 := St.start hS
  refine zaL (L := LDecision) (xs := [d]) (cs := [.int .i64 (d.number), .int .u8 (d.kind), strV (d.form), .int .i64 (d.at_.chapter), .int .i64 (d.at_.line), .int .i64 (d.at_.word), strV (d.to.stem), .int .u8 (d.to.mark), .int .i64 (d.of_)]) st44 (Enc.cons (L := LDecision) (vs := [.int .i64 (d.number), .int .u8 (d.kind), strV (d.form), .int .i64 (d.at_.chapter), .int .i64 (d.at_.line), .int .i64 (d.at_.word), strV (d.to.stem), .int .u8 (d.to.mark), .int .i64 (d.of_)]) (x := d) (h := hD) (⟨rfl, t_u8, zba, zba, t_u8⟩) Enc.nil) X X X zU Tryz.info74 X X X t_kr<|fun v45 w46 h49 le50 f47 st48=> ?_
  exact zt ⟨_, _, rfl, st48, _, rfl, f47⟩
 refine zbx<|zbx<|zhL zcR X<|zbx<|zbN X X X X X X ⟨t_kr, X, t_kr, X, t_kr, X, X, t_kr, (zbe X (zbe X (zbe X (zbe X (zbe X zcl)))))⟩<|fun hE52 w53 _ ls58 hl57 le54 st55 _ _=> ?_
 obtain ⟨oL56, rfl⟩ := zhy hl57
 have l59 := l36.trans le54
 refine zaT rfl rfl (zbc rfl Tryz.call76 rfl) ((zdW st55.sub (x_f0.up l59) (by omega)).mono ?_)
 rintro _ w61 ⟨h62, v60, o65, rfl, le63, s67, f66⟩
 refine ⟨_, rfl, ?_⟩
 have st64 := st55.call s67
 refine zt ⟨_, rfl, _, [[(b19, .cells (List.toArray [(.slice none 0 0), (.slice none 0 0)]) 28)]], [o65], le63, st64, ?_⟩
 intro hE69 w70 _ ls75 hl74 le71 st72 _ _
 obtain ⟨oL73, rfl⟩ := zhy hl74
 have l76 := (l59.trans le63).trans le71
 refine zaT rfl rfl (zbc rfl Tryz.call77 rfl) ((zcB st72.sub (x_f1.up l76) (by omega)).mono ?_)
 rintro _ w78 ⟨h79, v77, o82, rfl, le80, s84, f83⟩
 refine ⟨_, rfl, ?_⟩
 have st81 := st72.call s84
 refine zt ⟨_, rfl, _, [[(b19, .cells (List.toArray [(.slice none 0 0), (.slice none 0 0)]) 28)]], [o65, o82], le80, st81, ?_⟩
 intro hE86 w87 _ ls92 hl91 le88 st89 gv7_0x85 gf7_0x85
 obtain ⟨oL90, rfl⟩ := zhy hl91
 refine zaR (k := 3) (nb := 88) st89 (f83.up le88) rfl gf7_0x85 rfl rfl rfl zU Tryz.info74 rfl rfl rfl (by decide) rfl (by first | omega | (simp only [List.length_append, List.length_cons, List.length_nil]; omega)) (by first | omega | (simp only [List.length_append, List.length_cons, List.length_nil]; omega)) ?_
 intro v93 o94 w95 _ e96 f97 st98
 subst e96
 refine zt ⟨_, rfl, _, [[(b19, .cells (List.toArray [(.slice none 0 0), (.slice none 0 0)]) 28)]], [o65, o94], Le.refl _, st98, ?_⟩
 intro hE100 w101 _ ls106 hl105 le102 st103 
 obtain ⟨oL104, rfl⟩ := zhy hl105
 refine zq rfl rfl (zbW (cs := [v60, v93]) (by obtain ⟨_, _, rfl⟩ := OSl.form f66; obtain ⟨_, _, rfl⟩ := OSl.form f97; kernel_rfl)) ?_
 refine zt ⟨_, rfl, _, [[(b19, .cells (List.toArray [(.slice none 0 0), (.slice none 0 0)]) 28)]], [o65, o94], Le.refl _, st103, ?_⟩
 intro b108
 intro hE109 w110 _ le111 st112 _ _ _ _ _ _ _ _ _ _ gv7_0x107 gf7_0x107
 refine zM st112 (k := 1) X X X (za f66.one (za f97.one zap)) zR X X X<|fun w113 st114=> ?_
 obtain ⟨h115, le116, hb117, st119⟩ := st114.freeze (k := 1) rfl
 have hc118 := Cells.of hb117
 refine zt ⟨undef, rfl, _, _, le116, st119, ?_⟩
 intro hE120 w121 _ le122 st123 _ _ _ _ _ _ _ _ _ _ gv7_0x124 gf7_0x124
 refine AllDeps.fin X<|O<|zj<|W.sr<|have l125:=((((((((((le10.trans le16).trans le26).trans le54).trans le63).trans le71).trans le80).trans le88).trans le102).trans le111).trans le116).trans le122;zy st123.sub (hc5.up l125) X zaO zac X X<|zy st123.sub (hc118.up le122) X zaK zR X X ?_
 have ha126 := zhm st123.sub
 have l128 := (((((le71.trans le80).trans le88).trans le102).trans le111).trans le116).trans le122
 have f127 := (OSl.whole (k := 2) st123 (f66.up l128) rfl t_om).2
 have l130 := ((le102.trans le111).trans le116).trans le122
 have f129 := (OSl.whole (k := 3) st123 (f97.up l130) rfl t_om).2
 have l131 := ((((((l76.trans le80).trans le88).trans le102).trans le111).trans le116).trans le122).trans ha126
 refine zn st123 X X X Tryz.call96 X (Rets.thaw st123.sub (zhh (zfc _) (t := t) (t_f0.up l131) (x := (Lexicon.mk ((x.rules)) (((x.decisions)) ++ ([d])))) f127 f129 (K1.up l131)))<|fun r132 w133 h134 le135 st136 q137=> ?_
 obtain rfl := q137
 refine zcF X X X<|Y ?_
 refine zH rfl (fun c138 => ?_) (fun c138 => ?_)
 ·
  refine W.sr<|zq X X (zbW (cs := [(.slice none 0 0), (.slice none 0 0)]) t_kr)<|zM st136 (k := 0) X X X (za X (za X zap)) zR X X X<|fun w139 st140=>zz X X<|Y<|zB<|zd<|zbF Tryz.results80 X zaK zR X (st140.get (k := 0) X) ?_
  have st141 := st140.snoc
  have f142 := OSl.nil LRule 68 h134
  have st143 := st141.snoc
  have f144 := OSl.nil LDecision 74 h134
  refine ⟨h134, (.slice none 0 0), (.slice none 0 0), _, _, congrArg Ending.returned (tup2 rfl (zar ?_)), (((((((l76.trans le80).trans le88).trans le102).trans le111).trans le116).trans le122).trans le135), st143.sublist (own' := [[], []]) (.cons _ (.cons _ (.cons _ (.cons _ (.cons_cons _ (.cons_cons _ (.slnil))))))), OSl.to f142 ?_, OSl.to f144 ?_⟩
  all_goals (obtain ⟨q1, q2⟩ := addE_err (d := d) hx0 (by have q := c37; omega) c138)
  ·exact q1.symm
  ·rw [q2]; rfl
  rw [q2]; rfl
 refine zC<|O<|zj ?_
 have hx1 : zaQ t (moreX x d) = 0 := by simpa [moreX] using c138
 refine zo<|U X zQ X zaS X X<|E (j := 1) st136.sub (hc118.up (le122.trans le135)) X X X zbr X ?_
 have con := sortFunc (L := LDecision) (T := 74) Tryz.sort_api_Decision zaI zK (by decide) (fun x : Decision => [.int .i64 x.number, .int .u8 x.kind, strV x.form, .int .i64 x.at_.chapter, .int .i64 x.at_.line, .int .i64 x.at_.word, strV x.to.stem, .int .u8 x.to.mark, .int .i64 x.of_]) (by rintro _ _ _ ⟨rfl, _⟩; rfl) (fun a b : Decision => a.number - b.number) (swo_asc _) (g := 112) (caps := []) (i := 3) st136 (f97.up (l130.trans le135)) rfl (by simp only [List.length_append, List.length_cons, List.length_nil]; omega) Tryz.call112 ?_
 rotate_left
 ·intro a_ ha_ b_ hb_ w_ hs_
  obtain ⟨_, rfl, p0, p1, p2, p3⟩ := OSl.memR (f97.up (l130.trans le135)) ha_
  obtain ⟨_, rfl, q0, q1, q2, q3⟩ := OSl.memR (f97.up (l130.trans le135)) hb_
  simp only [big] at *
  exact c_stem_Add_1 hs_ (a := a_) p0 p1 p2 p3 (b := b_) q0 q1 q2 q3 (by have q := ((zgF hx1).2 a_ ha_); omega) (by have q := ((zgF hx1).2 b_ hb_); omega)
 refine zaT rfl rfl (zbc rfl Tryz.call111 rfl) (con.mono ?_)
 rintro _ w145 ⟨rfl, ys146, o147, _, e148, hp149, hw150, f151, st152⟩
 subst e148
 refine ⟨_, rfl, ?_⟩
 clear con
 have f153 := OSl.to f151 (show ys146 = (ascD (x.decisions ++ [d])) from ascD_eq hp149 (hw150.imp fun h => by omega) (zgF hx1).1)
 refine Y<|W.sr<|zy st152.sub (hc118.up (le122.trans le135)) X zaK zR X X<|zM st152 (k := 0) X X X (za f66.one (za f153.one zap)) zR X X X<|fun w154 st155=>zz X X<|Y<|zB<|zbF Tryz.results80 X zaK zR X (st155.get (k := 0) X) ?_
 refine ⟨h134, v60, v93, _, _, congrArg Ending.returned (tup2 rfl (zar ?_)), (((((((l76.trans le80).trans le88).trans le102).trans le111).trans le116).trans le122).trans le135), st155.sublist (own' := [o65, o147]) (.cons _ (.cons _ (.cons_cons _ (.cons_cons _ (.slnil))))), OSl.to (f66.up (l128.trans le135)) ?_, OSl.to f153 ?_⟩
 all_goals (obtain ⟨q1, q2⟩ := addE_ok (d := d) hx0 (by have q := c37; omega) hx1)
 ·exact q1.symm
 ·rw [q2]; rfl
 rw [q2]; rfl
end Go.Pk

namespace Go.Pk
open Go Go.RowKit Go.Proofs
theorem zic {h : Heap} {w : World} (hs : Sub h w) {t : Text} {t_v0 : Value} (t_f0 : Sl LChapter h t_v0 t.chapters) {x : Lexicon} {x_v0 : Value} (x_f0 : Sl LRule h x_v0 x.rules) {x_v1 : Value} (x_f1 : Sl LDecision h x_v1 x.decisions) : Calls Tryz.prog 88 #[.agg #[t_v0], .agg #[x_v0, x_v1]] w (Rets h w (fun h' _ res_ => ∃ u0, res_ = .tuple #[u0, .int .i64 (zaQ t x)] ∧ Sl LStr h' u0 ((homR t x)))) := by
 refine zS (n := 64) Tryz.func88 X X X<|have st0:=t_s0 hs;have t_f0_b:=t_f0.le;have x_f0_b:=x_f0.le;have x_f1_b:=x_f1.le;W.sr<|zG st0 (cs := [t_v0]) X X X<|fun b1 w2 h3 le4 hc5 st6=>zG st6 (cs := [x_v0, x_v1]) X X X<|fun b7 w8 h9 le10 hc11 st12=>zcz X X<|zz X X<|Y<|zj<|W.sr<|zy st12.sub (hc5.up le10) X zaO zac X X<|zy st12.sub hc11 X zaK zR X X<|have l13:=le4.trans le10;zn st12 X X X Tryz.call104 X (zet st12.sub (t := t) (t_f0.up l13) (x := x) (x_f0.up l13) (x_f1.up l13))<|fun r14 w15 h16 le17 st18 q19=> ?_
 obtain rfl := q19
 refine zz X X<|Y<|W.sr<|zk X X<|zcF X X X<|Y ?_
 refine zH rfl (fun c20 => ?_) (fun c20 => ?_)
 ·
  refine W.sr<|zk X X<|zcz X X<|zz X X<|Y<|zB<|zd<|zbs Tryz.results88 ?_
  refine ⟨h16, _, rfl, st18.done, ?_⟩
  refine ⟨_, tup2 rfl (zar ?_), Sl.to (Sl.nil _ _) ?_⟩
  all_goals simp_all [homR]
 refine zC<|O<|zj ?_
 have hx0 : zaQ t x = 0 := by simpa using c20
 refine zo<|zcz X X<|Y<|zj<|zbh (er := ([], [], [], [], 0)) (dsts := [19, 20, 21, 22, 23, 8, 9]) st18 Tryz.mixed<|zf 0 [] X t_kr t_kr X X (fun hD wD τD hL hS hO  => (zZ (hL.sub hS) (hc5.up (le10.trans le17)) X zaO zac X)) ?_
 refine zax 1 (.res (fun h' res_ => Sl LPlace h' res_ ((zcj (t)))) (fun _ _ _ hl f => f.up hl)) [0] rfl t_kr t_kr ?_ ?_
 ·
  intro hD wD τD hL hS hO _ _
  have st21 := St.start hS
  refine zn st21 rfl rfl rfl Tryz.call124 rfl (zhU st21.sub (t := t) (t_f0.up ((l13.trans le17).trans hL)) (by exact zcx hx0)) ?_
  intro r22 w23 h24 le25 st26 q27
  obtain ⟨v28, e30, f29⟩ := q27
  rw [← e30] at f29
  have f29_b := f29.le
  exact zt ⟨_, _, rfl, st26, _, rfl, f29⟩
 refine zf 2 [] X t_kr t_kr X X (fun hD wD τD hL hS hO  => (zZ (hL.sub hS) (hc5.up (le10.trans le17)) X zaO zac X))<|zf 3 [] X t_kr t_kr X X (fun hD wD τD hL hS hO  => (zZ (hL.sub hS) (hc11.up le17) X zaK zR X)) ?_
 refine zax 4 (.res (fun h' res_ => Sl LHead h' res_ ((zeG (t) (x)))) (fun _ _ _ hl f => f.up hl)) [1, 0, 2] rfl t_kr t_kr ?_ ?_
 ·
  intro hD wD τD hL hS hO _ _ _ _ gv1_0 gf1_0
  have st31 := St.start hS
  refine zn st31 rfl rfl rfl Tryz.call125 rfl (c_postilref04_All st31.sub (t := t) (t_f0.up ((l13.trans le17).trans hL)) (x := x) (x_f0.up ((l13.trans le17).trans hL)) (x_f1.up ((l13.trans le17).trans hL)) (by exact hx0)) ?_
  intro r32 w33 h34 le35 st36 q37
  obtain ⟨v38, e40, f39⟩ := q37
  rw [← e40] at f39
  have f39_b := f39.le
  exact zt ⟨_, _, rfl, st36, _, rfl, f39⟩
 refine zax 5 (.res (fun h' res_ => Sl LPlace h' res_ (((zcj (t))))) (fun _ _ _ hl f => f.up hl)) [0, 4, 3] rfl t_kr t_kr ?_ ?_
 ·
  intro hD wD τD hL hS hO gv4_0 gf4_0 _ _ gv1_0 gf1_0
  have st41 := St.start hS
  refine zaj (v := gv1_0) X X ?_
  exact zt ⟨_, _, rfl, st41, _, rfl, gf1_0⟩
 refine zax 6 (.res (fun h' res_ => Sl LHead h' res_ (((zeG (t) (x))))) (fun _ _ _ hl f => f.up hl)) [5, 4, 3, 2, 1, 0] rfl t_kr t_kr ?_ ?_
 ·
  intro hD wD τD hL hS hO _ _ gv1_0 gf1_0 _ _ _ _ gv4_0 gf4_0 gv5_0 gf5_0
  have st42 := St.start hS
  refine zaj (v := gv4_0) X X ?_
  exact zt ⟨_, _, rfl, st42, _, rfl, gf4_0⟩
 refine zbN X X X X X X ⟨t_kr, X, t_kr, X, t_kr, X, X, t_kr, zcl⟩<|fun hE43 w44 _ le45 st46 _ _ gv1_0x47 gf1_0x47 _ _ _ _ gv4_0x47 gf4_0x47 gv5_0x47 gf5_0x47 gv6_0x47 gf6_0x47=>AllDeps.fin X ?_
 have hpl := zgE (zcx hx0)
 have hhl : (zeG t x).length = (zcj t).length := heads_length t x
 have hel := entries_length t x
 refine O<|zj<|W.sr<|zz X X<|Y<|zF ?_
 refine zat ([7, 10, 11, 12] ++ t_rg 24 39) (G := Nat × Value × Heap) (fun ⟨i, v_7, h48⟩ => [(7, v_7), (10, .int .i64 (i : Int))]) (fun ⟨i, v_7, h48⟩ w' => Le hE43 h48 ∧ St h w h48 w' [] ∧ (Sl LStr h48 v_7 (setL sLt (zhc (zbt t x) i))) ∧ (i ≤ (zeG t x).length)) (fun ⟨i, v_7, h48⟩ => (zeG t x).length - i) ⟨0, (.slice none 0 0), hE43⟩ ⟨rfl, rfl, trivial⟩ ⟨Le.refl _, st46, (Sl.to (Sl.nil LStr hE43) (by rfl)), zaM⟩ ?_
 rintro ⟨i, v_7, h48⟩ _ w51 ⟨le49, st50, hF_7, hi⟩
 refine zj<|W.sr<|zk X X<|zaa (v := gv6_0x47) X X<|zaJ (gf6_0x47.up le49) X zaE X<|zaV X X X<|Y ?_
 refine zH rfl (fun c52 => ?_) (fun c52 => ?_)
 ·
  refine zC<|O<|zj<|zF<|W.sr<|zz X X<|Y<|zF ?_
  refine zat ([7, 11, 12] ++ t_rg 30 33) (G := Nat × Value × Heap) (fun ⟨k, v_7, h53⟩ => [(7, v_7), (11, .int .i64 (k : Int))]) (fun ⟨k, v_7, h53⟩ w' => Le h48 h53 ∧ St h w h53 w' [] ∧ (Sl LStr h53 v_7 (setL sLt (zhc (zbt t x) i ++ (List.range k).flatMap (ziB (zbt t x) i)))) ∧ (k ≤ i)) (fun ⟨k, v_7, h53⟩ => i - k) ⟨0, v_7, h48⟩ ⟨rfl, rfl, trivial⟩ ⟨Le.refl _, st50, (Sl.to hF_7 (by simp)), zaM⟩ ?_
  rintro ⟨k, v_7, h53⟩ _ w56 ⟨le54, st55, hF_7, hk⟩
  refine zj<|W.sr<|zk X X<|zk X X<|zaV X X X<|Y ?_
  refine zH rfl (fun c57 => ?_) (fun c57 => ?_)
  ·
   refine zC<|O<|zj<|zF<|zj ?_
   obtain ⟨p, hp⟩ : ∃ y, ((zcj t))[i]? = some y := ⟨_, List.getElem?_eq_getElem (by omega)⟩
   obtain ⟨q, hq⟩ : ∃ y, ((zcj t))[k]? = some y := ⟨_, List.getElem?_eq_getElem (by omega)⟩
   obtain ⟨a, ha⟩ : ∃ y, ((zeG t x))[i]? = some y := ⟨_, List.getElem?_eq_getElem (by omega)⟩
   obtain ⟨b, hb⟩ : ∃ y, ((zeG t x))[k]? = some y := ⟨_, List.getElem?_eq_getElem (by omega)⟩
   refine zbj Tryz.mixed t_kr (Cls h53 _) (Cls.drew st55)<|have l58:=(((le10.trans le17).trans le45).trans le49).trans le54;zl X X (fun _ hC => (zZ hC.sub (hc5.up l58) X zaO zac X))<|zdn (v := gv5_0x47) X X<|zbJ X X ?_
   obtain ⟨b59, o60, _, he62, hc61, hr_p⟩ := Sl.elem (gf5_0x47.up (le49.trans le54)) hp
   obtain rfl := hr_p
   refine zaG he62 X X (hk := X) (hu := zdY) (hz := zO) X<|zl X X (fun _ hC => (zZ hC.sub hc61 X zaD zO X)) ?_
   have hp0 : zbB t p = true := placesT_mem (List.mem_of_getElem? hp)
   have hq0 : zbB t q = true := placesT_mem (List.mem_of_getElem? hq)
   have hw12 := wordD_len (zcx hx0) hp0
   have hpq := pair_pl hp hq ha hb
   have l63 := (((l13.trans le17).trans le45).trans le49).trans le54
   refine zbU rfl rfl (fun _ => zbc rfl Tryz.call89 rfl) (fun _ hC => Rets.quiet hC (zel hC.sub (t := t) (t_f0.up l63) (p := p) (by first | exact hp0 | exact hq0))) ?_
   refine u_asS X X<|zaN ?_
   rintro w64 ⟨h65, s66⟩
   have st67 := st55.call0 s66
   refine O<|zj<|zbj Tryz.mixed t_kr (Cls h65 _) (Cls.drew st67)<|u_mvS X X<|zl X X (fun _ hC => (zZ hC.sub (hc5.up (l58.trans s66.le)) X zaO zac X))<|zdn (v := gv5_0x47) X X<|zbJ X X ?_
   obtain ⟨b68, o69, _, he71, hc70, hr_q⟩ := Sl.elem (gf5_0x47.up ((le49.trans le54).trans s66.le)) hq
   obtain rfl := hr_q
   refine zaG he71 X X (hk := X) (hu := zdY) (hz := zO) X<|zl X X (fun _ hC => (zZ hC.sub hc70 X zaD zO X)) ?_
   have l72 := l63.trans s66.le
   refine zbU rfl rfl (fun _ => zbc rfl Tryz.call89 rfl) (fun _ hC => Rets.quiet hC (zel hC.sub (t := t) (t_f0.up l72) (p := q) (by first | exact hp0 | exact hq0))) ?_
   refine u_seql X X X<|zdS X X ?_
   refine zcP (d := 49) rfl (fun g73 => ?_) (fun g73 => ?_)
   ·
    refine zg X X X<|zdn (v := gv6_0x47) X X<|zg X X X<|zbJ X X<|zg X X X ?_
    obtain ⟨b74, o75, _, he77, hc76, hr_a⟩ := Sl.elem (gf6_0x47.up ((le49.trans le54).trans s66.le)) ha
    obtain ⟨rfl, ls78, lu79⟩ := hr_a
    simp only [big] at ls78
    refine zaG he77 X X (hk := X) (hu := zaE) (hz := zT) X<|zg X X X<|zl X X (fun _ hC => (zZ hC.sub hc76 X zbl zT X))<|zg X X X<|zdn (v := gv6_0x47) X X<|zg X X X<|zbJ X X<|zg X X X ?_
    obtain ⟨b80, o81, _, he83, hc82, hr_b⟩ := Sl.elem (gf6_0x47.up ((le49.trans le54).trans s66.le)) hb
    obtain ⟨rfl, ls84, lu85⟩ := hr_b
    simp only [big] at ls84
    refine zaG he83 X X (hk := X) (hu := zaE) (hz := zT) X<|zg X X X<|zl X X (fun _ hC => (zZ hC.sub hc82 X zbl zT X))<|zg X X X<|zl X X (fun _ _ => (ziz X X zea (Tryz.eq_Head a b)))<|zcK (v := (.bool _)) X X X<|zaN ?_
    rintro w86 ⟨h87, s88⟩
    have st89 := st67.call0 s88
    refine O ?_
    refine zH rfl (fun c90 => ?_) (fun c90 => ?_)
    ·
     have hq1 := pairs_len (zbt t x) i (by omega)
     have hq2 := zcW (pairAt_len (zbt t x) i) k
     have hq3 : (zbt t x).length * i ≤ 600 * 600 := Nat.mul_le_mul (by omega) (by omega)
     have hq4 := setL_len sLt_T (zhc (zbt t x) i ++ (List.range k).flatMap (ziB (zbt t x) i))
     rw [List.length_append] at hq4
     refine zo<|zaa (v := v_7) X X<|zbX X X ?_
     refine zn st89 rfl rfl rfl Tryz.call126 rfl (c_postilref04_added st89.sub (hF_7.up (s66.le.trans s88.le)) _ zba (by omega)) ?_
     intro r91 w92 h93 le94 st95 q96
     obtain ⟨v97, e99, f98⟩ := q96
     rw [← e99] at f98
     have f98_b := f98.le
     refine zaj (v := r91) X X<|zt<|zP<|O<|zo<|zk X X<|zaP X X t_om X<|zz X X<|Y ?_
     have l100 := ((le54.trans s66.le).trans s88.le).trans le94
     refine ⟨⟨k + 1, r91, h93⟩, ⟨rfl, rfl, trivial⟩, ?_, ⟨l100, st95, ?_, ?_⟩, ?_⟩
     ·exact zav
     ·refine Sl.to f98 ?_
      rw [zcA, hpq, if_pos ⟨by simpa using g73, by simpa using c90⟩, ← List.append_assoc]; exact (setL_snoc _ _).symm
     ·first | omega | (simp; omega)
     show i - ((k + 1)) < i - k
     omega
    refine zC<|zP<|O<|zo<|zk X X<|zaP X X t_om X<|zz X X<|Y ?_
    refine ⟨⟨k + 1, v_7, h87⟩, ⟨rfl, rfl, trivial⟩, ?_, ⟨((le54.trans s66.le).trans s88.le), st89, ?_, ?_⟩, ?_⟩
    ·exact zav
    ·refine Sl.to (hF_7.up (s66.le.trans s88.le)) ?_
     rw [zcA, hpq, if_neg (by intro q; exact q.2 (by simpa using c90)), List.append_nil]
    ·first | omega | (simp; omega)
    show i - ((k + 1)) < i - k
    omega
   refine zb X X X X X<|zb X X X X X<|zb X X X X X<|zb X X X X X<|zb X X X X X<|zb X X X X X<|zb X X X X X<|zb X X X X X<|zb X X X X X<|zcL (v := (.bool _)) X X X<|zaN ?_
   rintro w101 ⟨h102, s103⟩
   have st104 := st67.call0 s103
   refine O ?_
   refine zad rfl (fun c105 => ?_) (fun c105 => ?_)
   ·
    cases c105
   refine zC<|zP<|O<|zo<|zk X X<|zaP X X t_om X<|zz X X<|Y ?_
   refine ⟨⟨k + 1, v_7, h102⟩, ⟨rfl, rfl, trivial⟩, ?_, ⟨((le54.trans s66.le).trans s103.le), st104, ?_, ?_⟩, ?_⟩
   ·exact zav
   ·refine Sl.to (hF_7.up (s66.le.trans s103.le)) ?_
    rw [zcA, hpq, if_neg (by intro q; exact absurd q.1 (by simpa using g73)), List.append_nil]
   ·first | omega | (simp; omega)
   show i - ((k + 1)) < i - k
   omega
  refine zaC<|zh<|zh<|zah<|zP<|O<|zo<|zk X X<|zaP X X t_om X<|zz X X<|Y ?_
  refine ⟨⟨i + 1, v_7, h53⟩, ⟨rfl, rfl, trivial⟩, ?_, ⟨(le49.trans le54), st55, ?_, ?_⟩, ?_⟩
  ·exact zav
  ·refine Sl.to hF_7 ?_
   rw [show k = i by omega, zhc, zhc, zcA]; rfl
  ·first | omega | (simp; omega)
  show (zeG t x).length - ((i + 1)) < (zeG t x).length - i
  omega
 refine zaC<|zh<|zh<|zah<|O<|W.sr<|zaa (v := v_7) X X<|zaj (v := v_7) X X<|zz X X<|Y<|zB<|zbs Tryz.results88 ?_
 refine ⟨h48, _, rfl, st50.done, ?_⟩
 refine ⟨_, tup2 rfl (zar ?_), Sl.to hF_7 ?_⟩
 ·exact hx0.symm
 rw [show i = (zbt t x).length by omega, ← homs_pairs]; simp [homR, hx0]
theorem ziK {h : Heap} {w : World} (hs : Sub h w) {x : Lexicon} {x_v0 : Value} (x_f0 : Sl LRule h x_v0 x.rules) {x_v1 : Value} (x_f1 : Sl LDecision h x_v1 x.decisions) (hln : x.rules.length ≤ 20 ∧ x.decisions.length ≤ 25) : Calls Tryz.prog 53 #[.agg #[x_v0, x_v1]] w (fun e_ w' => ∃ h' v0_ v1_ o0_ o1_, e_ = .returned (.agg #[v0_, v1_]) ∧ Le h h' ∧ St h w h' w' [o0_, o1_] ∧ OSl LRule 68 h' v0_ ((x).rules) o0_ ∧ OSl LDecision 74 h' v1_ ((x).decisions) o1_) := by
 refine zS (n := 14) Tryz.func53 X X X<|have st0:=t_s0 hs;have x_f0_b:=x_f0.le;have x_f1_b:=x_f1.le;W.sr<|OpsL.boxO st0 (cs := [x_v0, x_v1]) X X X<|fun b1 w2 st3=>zae st3 zcR X X<|fun b4 w5 st6=>Y<|W.sr<|zen (L := LRule) st6 X ⟨_, zcr⟩ zaX<|fun v7 o8 w9 f10 st11=>U X zQ X zbP X X<|zcp (st11.get (k := 0) X) X X zcs X ?_
 refine zaR (k := 2) (nb := 40) st11 f10 rfl x_f0 rfl rfl rfl zaX Tryz.info68 rfl rfl rfl (by decide) rfl (by simp only [List.length_nil, List.nil_append]; omega) (by simp only [List.length_nil, List.nil_append]; omega) ?_
 intro v12 o13 w14 _ e15 f16 st17
 subst e15
 refine U X zQ X zbP X X<|zbR st17 (k := 0) X X (v := v12) X f16.one zbP X X X<|fun w18 st19=>Y<|W.sr<|zen (L := LDecision) st19 X ⟨_, zK⟩ zU<|fun v20 o21 w22 f23 st24=>U X zQ X zaS X X<|zcp (st24.get (k := 0) X) X X zbr X ?_
 refine zaR (k := 3) (nb := 88) st24 f23 rfl x_f1 rfl rfl rfl zU Tryz.info74 rfl rfl rfl (by decide) rfl (by simp only [List.length_nil, List.nil_append]; omega) (by simp only [List.length_nil, List.nil_append]; omega) ?_
 intro v25 o26 w27 _ e28 f29 st30
 subst e28
 refine U X zQ X zaS X X<|zbR st30 (k := 0) X X (v := v25) X f29.one zaS X X X<|fun w31 st32=>Y<|W.sr<|zcd (st32.get (k := 0) X) X zaK zR X X<|zM st32 (k := 1) X X X (za f16.one (za f29.one zap)) zR X X X<|fun w33 st34=> ?_
 obtain ⟨h35, le36, hb37, st39⟩ := st34.freeze (k := 1) rfl
 have hc38 := Cells.of hb37
 refine Y<|zB<|zeT Tryz.results53 X zaK zR X st39.sub hc38 ?_
 refine ⟨h35, v12, v25, _, _, congrArg Ending.returned (rfl), le36, st39.sublist (own' := [o13, o26]) (.cons _ (.cons _ (.cons_cons _ (.cons_cons _ (.slnil))))), OSl.to (f16.up le36) ?_, OSl.to (f29.up le36) ?_⟩
 ·simp
 simp
theorem c_postilref04_Add {h : Heap} {w : World} (hs : Sub h w) {t : Text} {t_v0 : Value} (t_f0 : Sl LChapter h t_v0 t.chapters) {x : Lexicon} {x_v0 : Value} (x_f0 : Sl LRule h x_v0 x.rules) {x_v1 : Value} (x_f1 : Sl LDecision h x_v1 x.decisions) {d : Decision} (d_l2 : 0 ≤ d.kind ∧ d.kind ≤ 255) (d_l3 : d.form.length ≤ 281474976710656) (d_l7 : d.to.stem.length ≤ 281474976710656) (d_l8 : 0 ≤ d.to.mark ∧ d.to.mark ≤ 255) : Calls Tryz.prog 83 #[.agg #[t_v0], .agg #[x_v0, x_v1], .agg #[.int .i64 d.number, .int .u8 d.kind, strV d.form, .int .i64 d.at_.chapter, .int .i64 d.at_.line, .int .i64 d.at_.word, strV d.to.stem, .int .u8 d.to.mark, .int .i64 d.of_]] w (Rets h w (fun h' _ res_ => ∃ u0 u1, res_ = .tuple #[.agg #[u0, u1], .int .i64 (addE t x d)] ∧ Sl LRule h' u0 ((addN t x d)).rules ∧ Sl LDecision h' u1 ((addN t x d)).decisions)) := by
 refine zS (n := 88) Tryz.func83 X X X<|have st0:=t_s0 hs;have t_f0_b:=t_f0.le;have x_f0_b:=x_f0.le;have x_f1_b:=x_f1.le;W.sr<|zG st0 (cs := [t_v0]) X X X<|fun b1 w2 h3 le4 hc5 st6=>zG st6 (cs := [x_v0, x_v1]) X X X<|fun b7 w8 h9 le10 hc11 st12=>zG st12 (cs := [.int .i64 (d.number), .int .u8 (d.kind), strV (d.form), .int .i64 (d.at_.chapter), .int .i64 (d.at_.line), .int .i64 (d.at_.word), strV (d.to.stem), .int .u8 (d.to.mark), .int .i64 (d.of_)]) X X X<|fun b13 w14 h15 le16 hc17 st18=>zae st18 zcR X X<|fun b19 w20 st21=>zz X X<|Y<|zj<|W.sr<|zy st21.sub (hc5.up (le10.trans le16)) X zaO zac X X<|zy st21.sub (hc11.up le16) X zaK zR X X<|have l22:=(le4.trans le10).trans le16;zn st21 X X X Tryz.call104 X (zet st21.sub (t := t) (t_f0.up l22) (x := x) (x_f0.up l22) (x_f1.up l22))<|fun r23 w24 h25 le26 st27 q28=> ?_
 obtain rfl := q28
 refine zz X X<|Y<|W.sr<|zk X X<|zcF X X X<|Y ?_
 refine zH rfl (fun c29 => ?_) (fun c29 => ?_)
 ·
  refine W.sr<|zq X X (zbW (cs := [(.slice none 0 0), (.slice none 0 0)]) t_kr)<|zk X X<|zM st27 (k := 0) X X X (za X (za X zap)) zR X X X<|fun w30 st31=>zz X X<|Y<|zB<|zd<|zbF Tryz.results83 X zaK zR X (st31.get (k := 0) X) ?_
  refine ⟨h25, _, rfl, st31.done, ?_⟩
  refine ⟨_, _, tup2 ?_ (zar ?_), Sl.to (Sl.nil _ _) ?_, Sl.to (Sl.nil _ _) ?_⟩
  all_goals (obtain ⟨q1, q2⟩ := addE_bad (d := d) c29)
  ·rfl
  ·exact q1.symm
  ·rw [q2]; rfl
  rw [q2]; rfl
 refine zC<|O<|zj<|zj ?_
 have hx0 : zaQ t x = 0 := by simpa using c29
 have hdl := zeF hx0
 have hrl := zhx hx0
 refine zo<|U X zQ X zaS X X<|E (j := 1) st27.sub (hc11.up (le16.trans le26)) X X X zbr X<|have l32:=l22.trans le26;zaJ (x_f1.up l32) X zU X<|zee X X X<|Y ?_
 refine zH rfl (fun c33 => ?_) (fun c33 => ?_)
 ·
  refine W.sr<|zq X X (zbW (cs := [(.slice none 0 0), (.slice none 0 0)]) t_kr)<|zM st27 (k := 0) X X X (za X (za X zap)) zR X X X<|fun w34 st35=>zz X X<|Y<|zB<|zd<|zbF Tryz.results83 X zaK zR X (st35.get (k := 0) X) ?_
  refine ⟨h25, _, rfl, st35.done, ?_⟩
  refine ⟨_, _, tup2 ?_ (zar ?_), Sl.to (Sl.nil _ _) ?_, Sl.to (Sl.nil _ _) ?_⟩
  all_goals (obtain ⟨q1, q2⟩ := addE_full (d := d) hx0 (by have q := c33; omega))
  ·rfl
  ·exact q1.symm
  ·rw [q2]; rfl
  rw [q2]; rfl
 refine zC<|O<|W.sr<|zy st27.sub (hc11.up (le16.trans le26)) X zaK zR X X ?_
 refine zaT rfl rfl (zbc rfl Tryz.call53 rfl) ((ziK st27.sub (x := x) (x_f0.up l32) (x_f1.up l32) (by omega)).mono ?_)
 rintro _ w36 ⟨h37, v41, v44, o42, o45, rfl, le38, s40, f43, f46⟩
 refine ⟨_, rfl, ?_⟩
 have st39 := st27.call s40
 refine zae st39 zcR X X<|fun b47 w48 st49=>zM st49 (k := 3) X X X (za f43.one (za f46.one zap)) zR X X X<|fun w50 st51=>Y<|W.sr<|U X zQ X zaS X X<|zcp (st51.get (k := 3) X) X X zbr X<|zy st51.sub (hc17.up (le26.trans le38)) X zaI zK X X<|zaL (L := LDecision) (xs := [d]) (cs := [.int .i64 (d.number), .int .u8 (d.kind), strV (d.form), .int .i64 (d.at_.chapter), .int .i64 (d.at_.line), .int .i64 (d.at_.word), strV (d.to.stem), .int .u8 (d.to.mark), .int .i64 (d.of_)]) st51 (Enc.cons (L := LDecision) (vs := [.int .i64 (d.number), .int .u8 (d.kind), strV (d.form), .int .i64 (d.at_.chapter), .int .i64 (d.at_.line), .int .i64 (d.at_.word), strV (d.to.stem), .int .u8 (d.to.mark), .int .i64 (d.of_)]) (x := d) (h := h37) (⟨rfl, t_u8, zba, zba, t_u8⟩) Enc.nil) X X X zU Tryz.info74 X X X t_kr<|fun v52 w53 h56 le57 f54 st55=> ?_
 refine zaR (k := 2) (nb := 88) st55 (f46.up le57) rfl f54 rfl rfl rfl zU Tryz.info74 rfl rfl rfl (by decide) rfl (by first | omega | (simp only [List.length_append, List.length_cons, List.length_nil]; omega)) (by first | omega | (simp only [List.length_append, List.length_cons, List.length_nil]; omega)) ?_
 intro v58 o59 w60 _ e61 f62 st63
 subst e61
 refine U X zQ X zaS X X<|zbR st63 (k := 3) X X (v := v58) X f62.one zaS X X X<|fun w64 st65=>Y<|zj<|W.sr<|have l66:=(((le10.trans le16).trans le26).trans le38).trans le57;zy st65.sub (hc5.up l66) X zaO zac X X<|zcd (st65.get (k := 3) X) X zaK zR X X ?_
 have ha67 := zhm st65.sub
 have f68 := (OSl.whole (k := 1) st65 (f43.up le57) rfl t_om).2
 have f69 := (OSl.whole (k := 2) st65 f62 rfl t_om).2
 have l70 := ((l32.trans le38).trans le57).trans ha67
 refine zn st65 X X X Tryz.call116 X (Rets.thaw st65.sub (zgy (zfc _) (t := t) (t_f0.up l70) (x := (Lexicon.mk (((x)).rules) ((((x)).decisions) ++ [d]))) f68 f69))<|fun r71 w72 h73 le74 st75 q76=> ?_
 obtain rfl := q76
 refine zbQ X X<|Y ?_
 refine zad rfl (fun c77 => ?_) (fun c77 => ?_)
 ·
  refine W.sr<|zq X X (zbW (cs := [(.slice none 0 0), (.slice none 0 0)]) t_kr)<|zM st75 (k := 0) X X X (za X (za X zap)) zR X X X<|fun w78 st79=>zz X X<|Y<|zB<|zd<|zbF Tryz.results83 X zaK zR X (st79.get (k := 0) X) ?_
  refine ⟨h73, _, rfl, st79.done, ?_⟩
  refine ⟨_, _, tup2 ?_ (zar ?_), Sl.to (Sl.nil _ _) ?_, Sl.to (Sl.nil _ _) ?_⟩
  all_goals (obtain ⟨q1, q2⟩ := addE_err (d := d) hx0 (by have q := c33; omega) (more_bad (zcx hx0) (by simpa [moreX] using c77)))
  ·rfl
  ·exact q1.symm
  ·rw [q2]; rfl
  rw [q2]; rfl
 refine zC<|O<|zj<|zj ?_
 have hx1 : zaQ t (moreX x d) = 0 := more_ok (zcx hx0) (by simpa [moreX] using c77)
 have hml : (x.decisions ++ [d]).length = x.decisions.length + 1 := by simp
 refine zo<|zz X X<|Y<|zF ?_
 refine zat ([10, 11, 12] ++ t_rg 38 49) (G := Nat × List Decision × List (Nat × Obj) × Heap) (fun ⟨i, ds, o_k2, h80⟩ => [(10, .int .i64 (i : Int))]) (fun ⟨i, ds, o_k2, h80⟩ w' => Le h73 h80 ∧ St h w h80 w' [[(b19, .cells (List.toArray [(.slice none 0 0), (.slice none 0 0)]) 28)], o42, o_k2, [(b47, .cells (List.toArray [v41, v58]) 28)]] ∧ (OSl LDecision 74 h80 v58 (ds) o_k2) ∧ (1 ≤ i ∧ i ≤ ds.length) ∧ (ds.Perm (x.decisions ++ [d])) ∧ (zgR ds i)) (fun ⟨i, ds, o_k2, h80⟩ => ds.length - i) ⟨1, (x.decisions ++ [d]), o59, h73⟩ ⟨rfl, trivial⟩ ⟨Le.refl _, st75, (OSl.to (f62.up le74) (by rfl)), (by exact ⟨by omega, by omega⟩), (by exact List.Perm.refl _), (by exact sorted_one _)⟩ ?_
 rintro ⟨i, ds, o_k2, h80⟩ _ w83 ⟨le81, st82, hO_k2, hi, hdp, hso⟩
 have hdsl := hdp.length_eq
 refine zj<|W.sr<|zk X X<|U X zQ X zaS X X<|zcp (st82.get (k := 3) X) X X zbr X<|zeu hO_k2 X zU X<|zaV X X X<|Y ?_
 refine zH rfl (fun c84 => ?_) (fun c84 => ?_)
 ·
  refine zC<|O<|zj<|zF<|zj ?_
  obtain ⟨y, hy⟩ : ∃ y, (ds)[i]? = some y := ⟨_, List.getElem?_eq_getElem (by omega)⟩
  refine zo<|zk X X<|zz X X<|Y<|zF ?_
  refine zat ([11, 12] ++ t_rg 46 41) (G := Nat × List (Nat × Obj) × Heap) (fun ⟨k, o_k2, h85⟩ => [(11, .int .i64 (k : Int))]) (fun ⟨k, o_k2, h85⟩ w' => Le h80 h85 ∧ St h w h85 w' [[(b19, .cells (List.toArray [(.slice none 0 0), (.slice none 0 0)]) 28)], o42, o_k2, [(b47, .cells (List.toArray [v41, v58]) 28)]] ∧ (OSl LDecision 74 h85 v58 (insK ds i k y) o_k2) ∧ (k ≤ i) ∧ (∀ z ∈ (ds.take i).drop k, y.number < z.number)) (fun ⟨k, o_k2, h85⟩ => k) ⟨i, o_k2, h80⟩ ⟨rfl, trivial⟩ ⟨Le.refl _, st82, (OSl.to hO_k2 (by exact (insK_start hy).symm)), zaM, (by rw [List.drop_eq_nil_of_le (by rw [List.length_take]; omega)]; simp)⟩ ?_
  rintro ⟨k, o_k2, h85⟩ _ w88 ⟨le86, st87, hO_k2, hk, hg⟩
  have hil := zfE hy hk
  refine zj<|zj<|zbj Tryz.mixed t_kr (Cls h85 _) (Cls.drew st87)<|zbJ X X<|u_gtr X X X<|zdS X X ?_
  refine zcP (d := 48) rfl (fun g89 => ?_) (fun g89 => ?_)
  ·
   refine zg X X X<|zD X zQ X zaS X X<|zg X X X<|zl X X (fun _ hC => (zfk (hC.block (st87.get (k := 3) X)) X X zbr))<|zg X X X<|zbJ X X<|zg X X X<|zig X X t_om X<|zg X X X ?_
   obtain ⟨z, hz⟩ : ∃ y_, (insK ds i k y)[k - 1]? = some y_ := t_ge (by rw [zfE hy hk]; omega)
   obtain ⟨b90, o91, cur92, _, e95, he93, hr_z, hc94⟩ := OSl.elem hO_k2 hz
   subst e95
   obtain ⟨rfl, lu96, ls97, ls98, lu99⟩ := hr_z
   simp only [big] at ls97
   simp only [big] at ls98
   refine zl rfl rfl (fun _ _ => (zao he93 rfl rfl (hk := (show _ = ((k - 1 : Nat) : Int) by omega)) (hu := zU) (hz := zK))) ?_
   refine zg X X X<|zD X zi X zr X X<|zg X X X<|zl X X (fun _ hC => (zct (j := 0) (hC.block (st87.get (k := 2) X)) hc94 X X X zN))<|zg X X X<|zD X zQ X zaS X X<|zg X X X<|zl X X (fun _ hC => (zfk (hC.block (st87.get (k := 3) X)) X X zbr))<|zg X X X<|zbJ X X<|zg X X X ?_
   obtain ⟨y2, hy2⟩ : ∃ y_, (insK ds i k y)[k]? = some y_ := t_ge (by rw [zfE hy hk]; omega)
   obtain ⟨b100, o101, cur102, _, e105, he103, hr_y2, hc104⟩ := OSl.elem hO_k2 hy2
   obtain ⟨hb106, hc107⟩ : b90 = b100 ∧ cur92 = cur102 := by cases e105; exact ⟨rfl, rfl⟩
   subst hb106
   subst hc107
   obtain ⟨rfl, lu108, ls109, ls110, lu111⟩ := hr_y2
   simp only [big] at ls109
   simp only [big] at ls110
   refine zaG he103 X X (hk := X) (hu := zU) (hz := zK) X<|zg X X X<|zD X zi X zr X X<|zg X X X<|zl X X (fun _ hC => (zct (j := 0) (hC.block (st87.get (k := 2) X)) hc104 X X X zN))<|zg X X X<|u_gtr X X X<|zcK (v := (.bool _)) X X X<|zaN ?_
   rintro w112 ⟨h113, s114⟩
   have st115 := st87.call0 s114
   refine O ?_
   refine zH rfl (fun c116 => ?_) (fun c116 => ?_)
   ·
    refine zC<|O<|zj<|zF<|W.sr<|U X zQ X zaS X X<|zcp (st115.get (k := 3) X) X X zbr X<|zk X X ?_
    obtain ⟨b117, o118, cur119, _, e122, he120, hr_y2, hc121⟩ := OSl.elem (hO_k2.up s114.le) hy2
    obtain ⟨hb123, hc124⟩ : b90 = b117 ∧ cur92 = cur119 := by cases e122; exact ⟨rfl, rfl⟩
    subst hb123
    subst hc124
    obtain ⟨rfl, lu125, ls126, ls127, lu128⟩ := hr_y2
    simp only [big] at ls126
    simp only [big] at ls127
    refine zV he120 X X (hk := X) (hu := zU) (hz := zK) X<|zq X X (r_load_curN (st115.get (k := 2) X) hc121 X zaI zK X)<|zae st115 zbD X X<|fun b129 w130 st131=>zM st131 (k := 4) X X X (za X (za X (za X (za X (za X (za X (za X (za X (za X zap))))))))) zK X X X<|fun w132 st133=> ?_
    obtain ⟨h134, le135, hb136, st138⟩ := st133.freeze (k := 4) rfl
    have hc137 := Cells.of hb136
    refine Y<|zj ?_
    obtain ⟨b139, o140, cur141, _, e144, he142, hr_z, hc143⟩ := OSl.elem (hO_k2.up (s114.le.trans le135)) hz
    obtain ⟨hb145, hc146⟩ : b90 = b139 ∧ cur92 = cur141 := by cases e144; exact ⟨rfl, rfl⟩
    subst hb145
    subst hc146
    obtain ⟨rfl, lu147, ls148, ls149, lu150⟩ := hr_z
    simp only [big] at ls148
    simp only [big] at ls149
    obtain ⟨b151, o152, cur153, _, e156, he154, hr_y2, hc155⟩ := OSl.elem (hO_k2.up (s114.le.trans le135)) hy2
    obtain ⟨hb157, hc158⟩ : b90 = b151 ∧ cur92 = cur153 := by cases e156; exact ⟨rfl, rfl⟩
    subst hb157
    subst hc158
    obtain ⟨rfl, lu159, ls160, ls161, lu162⟩ := hr_y2
    simp only [big] at ls160
    simp only [big] at ls161
    refine zbh (er := ([1, 4, 8], [], [], [], 0)) (dsts := [71, 72, 73, 74, 75, 76, 77, 78, 79, 80]) st138 Tryz.mixed<|zf 0 [] X t_kr t_kr X X (fun hD wD τD hL hS hO  => (zL X zQ X zaS X))<|zf 1 [0] X t_kr t_kr X X (fun hD wD τD hL hS hO _ _ => (zfk ((hO X).get (k := 3) X) X X zbr))<|zf 2 [] X t_kr t_kr X X (fun hD wD τD hL hS hO  => (zdP X))<|zf 3 [] X t_kr t_kr X X (fun hD wD τD hL hS hO  => (zL X zQ X zaS X))<|zf 4 [0] X t_kr t_kr X X (fun hD wD τD hL hS hO _ _ => (zfk ((hO X).get (k := 3) X) X X zbr))<|zf 5 [] X t_kr t_kr X X (fun hD wD τD hL hS hO  => (zdP X))<|zf 6 [0] X t_kr t_kr X X (fun hD wD τD hL hS hO _ _ => (r_sub X X t_om)) ?_
    refine zf 7 [2, 0] rfl t_kr t_kr rfl rfl (fun hD wD τD hL hS hO _ _ _ _ => (zao he142 rfl rfl (hk := (show _ = ((k - 1 : Nat) : Int) by omega)) (hu := zU) (hz := zK))) ?_
    refine zf 8 [0] X t_kr t_kr X X (fun hD wD τD hL hS hO _ _ => (r_load_curN ((hO X).get (k := 2) X) hc143 X zaI zK X))<|zf 9 [8, 7, 6, 5, 4, 3, 2, 1, 0] X t_kr t_kr X X (fun hD wD τD hL hS hO _ _ _ _ _ _ _ _ _ _ _ _ _ _ _ _ _ _ => (zao he154 X X (hk := X) (hu := zU) (hz := zK)))<|zbx<|zbN X X X X X X ⟨t_kr, X, t_kr, X, t_kr, X, X, t_kr, (zbe X zcl)⟩<|fun hE164 w165 _ le166 st167 _ _ _ _ _ _ _ _ _ _ _ _ _ _ _ _ _ _ _ _=> ?_
    refine OpsL.storeEl (k := 2) st167 (hO_k2.up ((s114.le.trans le135).trans le166)) rfl (by rw [zfE hy hk]; omega) he154 rfl rfl (⟨rfl, t_u8, zba, zba, t_u8⟩) zK ?_
    intro o168 w169 _ e170 f171 st172
    subst e170
    refine zt ⟨undef, rfl, _, _, Le.refl _, st172, ?_⟩
    intro hE173 w174 _ le175 st176 _ _ _ _ _ _ _ _ _ _ _ _ _ _ _ _ _ _ _ _
    refine AllDeps.fin X<|O<|zo<|U X zQ X zaS X X<|zcp (st176.get (k := 3) X) X X zbr X<|zk X X<|zfu X X t_om X<|zy st176.sub (hc137.up (le166.trans le175)) X zaI zK X X ?_
    obtain ⟨z2, hz2⟩ : ∃ y_, (((insK ds i k y).set k z))[k - 1]? = some y_ := t_ge (by rw [List.length_set, zfE hy hk]; omega)
    obtain ⟨b178, o179, cur180, _, e183, he181, hr_z2, hc182⟩ := OSl.elem (f171.up le175) hz2
    subst e183
    obtain ⟨rfl, lu184, ls185, ls186, lu187⟩ := hr_z2
    simp only [big] at ls185
    simp only [big] at ls186
    refine zq rfl rfl (zao he181 rfl rfl (hk := (show _ = ((k - 1 : Nat) : Int) by omega)) (hu := zU) (hz := zK)) ?_
    refine OpsL.storeEl (k := 2) st176 (f171.up le175) rfl (by rw [List.length_set, zfE hy hk]; omega) he181 rfl rfl (⟨rfl, t_u8, zba, zba, t_u8⟩) zK ?_
    intro o188 w189 _ e190 f191 st192
    subst e190
    refine zt<|zP<|O<|zo<|zk X X<|zfu X X t_om X<|zz X X<|Y ?_
    have hz3 : ds[k - 1]? = some z := (insK_pred hy hk (by omega)).symm.trans hz
    have e2 : y2 = y := Option.some.inj (hy2.symm.trans (insK_at hy hk))
    have l193 := (((le86.trans s114.le).trans le135).trans le166).trans le175
    refine ⟨⟨k - 1, o188, hE173⟩, ⟨?_, trivial⟩, ?_, ⟨l193, st192.take 4, ?_, ?_, ?_⟩, ?_⟩
    ·exact zar (by omega)
    ·exact zav
    ·refine OSl.to f191 ?_
     rw [e2]; exact insK_step hy hk (by omega) hz3
    ·first | omega | (simp; omega)
    ·exact insK_gt hk (by omega) hz3 (by have q := c116; rw [e2] at q; omega) hg
    show ((k - 1)) < k
    omega
   refine zaC<|zh<|zh<|zah<|zP<|O<|zo<|zk X X<|zaP X X t_om X<|zz X X<|Y ?_
   have hz3 : ds[k - 1]? = some z := (insK_pred hy hk (by omega)).symm.trans hz
   have e2 : y2 = y := Option.some.inj (hy2.symm.trans (insK_at hy hk))
   refine ⟨⟨i + 1, insK ds i k y, [(b90, .cells cur92 74)], h113⟩, ⟨rfl, trivial⟩, ?_, ⟨((le81.trans le86).trans s114.le), st115, ?_, ?_, ?_, ?_⟩, ?_⟩
   ·exact zav
   ·refine OSl.to (hO_k2.up s114.le) ?_
    rfl
   ·rw [zfE hy hk]; exact ⟨by omega, by omega⟩
   ·exact (insK_perm hy hk).trans hdp
   ·exact insK_sorted hy hk hso hg (by intro h0 z0 hz0; rw [hz3] at hz0; cases hz0; have q := c116; rw [e2] at q; omega)
   show ((insK ds i k y)).length - ((i + 1)) < ds.length - i
   have := zfE hy hk; omega
  refine zb X X X X X<|zb X X X X X<|zb X X X X X<|zb X X X X X<|zb X X X X X<|zb X X X X X<|zb X X X X X<|zb X X X X X<|zb X X X X X<|zb X X X X X<|zb X X X X X<|zb X X X X X<|zb X X X X X<|zb X X X X X<|zcL (v := (.bool _)) X X X<|zaN ?_
  rintro w194 ⟨h195, s196⟩
  have st197 := st87.call0 s196
  refine O ?_
  refine zad rfl (fun c198 => ?_) (fun c198 => ?_)
  ·
   cases c198
  refine zaC<|zh<|zh<|zah<|zP<|O<|zo<|zk X X<|zaP X X t_om X<|zz X X<|Y ?_
  refine ⟨⟨i + 1, insK ds i k y, o_k2, h195⟩, ⟨rfl, trivial⟩, ?_, ⟨((le81.trans le86).trans s196.le), st197, ?_, ?_, ?_, ?_⟩, ?_⟩
  ·exact zav
  ·refine OSl.to (hO_k2.up s196.le) ?_
   rfl
  ·rw [zfE hy hk]; exact ⟨by omega, by omega⟩
  ·exact (insK_perm hy hk).trans hdp
  ·exact insK_sorted hy hk hso hg (by intro h0; omega)
  show ((insK ds i k y)).length - ((i + 1)) < ds.length - i
  have := zfE hy hk; omega
 refine zaC<|zh<|zh<|zah<|O<|W.sr<|zcd (st82.get (k := 3) X) X zaK zR X X<|zM st82 (k := 0) X X X (za f43.one (za hO_k2.one zap)) zR X X X<|fun w199 st200=>zz X X<|Y<|zB<|zbF Tryz.results83 X zaK zR X (st200.get (k := 0) X) ?_
 obtain ⟨h201, le202, f203, st204⟩ := OSl.freeze (k := 1) st200 (f43.up ((le57.trans le74).trans le81)) rfl t_om
 obtain ⟨h205, le206, f207, st208⟩ := OSl.freeze (k := 2) st204 (hO_k2.up le202) rfl t_om
 refine ⟨h205, _, rfl, st208.done, ?_⟩
 refine ⟨_, _, tup2 ?_ (zar ?_), Sl.to (f203.up le206) ?_, Sl.to f207 ?_⟩
 all_goals (obtain ⟨q1, q2⟩ := addE_ok (d := d) hx0 (by have q := c33; omega) hx1)
 ·rfl
 ·exact q1.symm
 ·rw [q2]; rfl
 rw [q2]; exact ascD_of hdp hso (by omega) (zgF hx1).1
end Go.Pk
