/- A PART OF THE PROOF: contracts of functions, each walked once (much of it printed by a program of the author's own). -/
import Derived.Test.YtngmpkoobdkeiaaGreatDoorT10
import Derived.Test.YtngmpkoobdkeiaaGreatDoorT9
import Derived.Test.YtngmpkoobdkeiaaGreatDoorT3
import Derived.Test.YtngmpkoobdkeiaaGreatDoorT5
namespace Go.Pk
open Go Go.RowKit Go.Proofs
set_option maxRecDepth 4000 in
theorem c_postilref04_added {h : Heap} {w : World} (hs : Sub h w) {l_v : Value} {l : (List Str)} (l_f : Sl LStr h l_v l) (s : Str) (s_le : s.length ≤ 281474976710656) (hl : l.length ≤ 600) : Calls Tryz.prog 62 #[l_v, strV s] w (Rets h w (fun h' _ res_ => ∃ u0, res_ = u0 ∧ Sl LStr h' u0 ((insBy sLt l s)))) := by
 refine zM (n := 45) (args := [l_v, strV s]) Tryz.func62 X X X ?_
 have st0 : St h w h w [] := St.start hs
 have l_f_b := l_f.le
 refine zd<|O<|Y X X (r_asL X)<|E<|M<|zd<|O<|Y X X (zz X)<|E<|M<|zd<|zF ?_
 refine zW [5, 6, 7, 8, 9, 10, 11, 12, 13, 14, 15, 16, 17, 18, 19] (G := Nat × Heap) (fun ⟨k, h1⟩ => [(5, .int .i64 (k : Int))]) (fun ⟨k, h1⟩ w' => Le h h1 ∧ St h w h1 w' [] ∧ (k ≤ l.length) ∧ (∀ j y0, j < k → l[j]? = some y0 → sLt y0 s = true)) (fun ⟨k, h1⟩ => l.length - k) ⟨0, h⟩ ⟨rfl, trivial⟩ ⟨Le.refl _, st0, zak, (by intro j _ hj; omega)⟩ ?_
 rintro ⟨k, h1⟩ _ w4 ⟨le2, st3, hk, hb⟩
 refine zd<|zd<|O<|Y X X (zo X)<|Y X X (zA (v := l_v) X)<|Y X X (zae (l_f.up le2) X Tryz.underlying33)<|Y X X (zam X X)<|Y X X (zN X) ?_
 refine zD (d := 10) rfl (fun g5 => ?_) (fun g5 => ?_)
 ·
  replace g5 := of_decide_eq_true g5
  refine za X X (d := 10) X<|Y X X (zA (v := l_v) X)<|za X X (d := 10) X<|Y X X (zo X)<|za X X (d := 10) X ?_
  have hy : ∃ y, (l)[k]? = some y := ⟨_, List.getElem?_eq_getElem (by omega)⟩
  obtain ⟨y, hy⟩ := hy
  obtain ⟨b6, o7, _, he9, hc8, hr_y⟩ := Sl.elem (l_f.up le2) hy
  obtain ⟨rfl, ls10⟩ := hr_y
  simp only [big] at ls10
  refine Y X X (zq he9 X X (hk := X) (hu := Tryz.underlying33) (hz := Tryz.sizeOf9))<|za X X (d := 10) X<|Y X X (zb (j := 0) st3.sub hc8 X X X Tryz.isAgg9)<|za X X (d := 10) X<|Y X X (r_mvS X)<|za X X (d := 10) X<|Y X X (r_slss X X)<|Y X X (zJ (v := (.bool _)) X X)<|E<|M ?_
  refine zr rfl (fun c11 => ?_) (fun c11 => ?_)
  ·
   refine zB<|M<|zF<|O<|Y X X (zo X)<|Y X X (zai X X t_om)<|Y X X (zz X)<|E<|zL<|M ?_
   refine ⟨⟨k + 1, h1⟩, ⟨rfl, trivial⟩, ?_, ⟨le2, st3, ?_, ?_⟩, ?_⟩
   ·exact zag
   ·first | omega | (simp; omega)
   ·intro j y0 hj h0
    rcases Nat.lt_or_ge j k with q | q
    ·exact hb j y0 q h0
    ·obtain rfl : j = k := by omega
     rw [hy] at h0; cases h0; simpa [sLt] using c11
   ·show l.length - ((k + 1)) < l.length - k
    omega
  ·
   refine zab<|zn<|zn<|zT<|M<|zd<|zd ?_
   have h2 : ∀ y0, (l)[k]? = some y0 → sLt y0 s = false := by
    intro y0 h0
    first
     | (exfalso; have := (List.getElem?_eq_some_iff.1 h0).1; omega)
     | (rw [hy] at h0; cases h0; first | assumption | (simp_all [sLt]; done) | (simp_all; done))
   refine O<|Y X X (zo X)<|Y X X (zA (v := l_v) X)<|Y X X (zae (l_f.up le2) X Tryz.underlying33)<|Y X X (zam X X)<|Y X X (zN X) ?_
   refine zD (d := 24) rfl (fun g12 => ?_) (fun g12 => ?_)
   ·
    replace g12 := of_decide_eq_true g12
    refine za X X (d := 24) X<|Y X X (zA (v := l_v) X)<|za X X (d := 24) X<|Y X X (zo X)<|za X X (d := 24) X<|Y X X (zq he9 X X (hk := X) (hu := Tryz.underlying33) (hz := Tryz.sizeOf9))<|za X X (d := 24) X<|Y X X (zb (j := 0) st3.sub hc8 X X X Tryz.isAgg9)<|za X X (d := 24) X<|Y X X (r_mvS X)<|za X X (d := 24) X<|Y X X (r_seql X X)<|Y X X (zJ (v := (.bool _)) X X)<|E<|M ?_
    refine zr rfl (fun c13 => ?_) (fun c13 => ?_)
    ·
     replace c13 := of_decide_eq_true c13
     refine zd<|O<|Y X X (zA (v := l_v) X)<|Y X X (zG (v := l_v) X)<|E<|M<|zy<|zj<|zh Tryz.results62 ?_
     refine ⟨h1, _, rfl, st3.done, ?_⟩
     refine ⟨_, rfl, Sl.to (l_f.up le2) ?_⟩
     first | exact (insBy_old hb h2 (by simp_all)).symm | exact (insBy_new hb h2 (by simp_all)).symm | (rw [insBy_new hb h2 (by first | simp_all | (intro q; have := (List.getElem?_eq_some_iff.1 q).1; omega))]; simp)
    ·
     replace c13 := of_decide_eq_false c13
     refine zB<|M<|zd ?_
     have f14 := Sl.take l_f (k := k) (by omega)
     have f15 := Sl.drop l_f (k := k) (by omega)
     refine zac (er := ([], [], [], [], 0)) (dsts := [33, 34, 35, 36, 37, 38, 39, 40, 41, 42, 43, 44, 4]) st3 Tryz.mixed ?_
     refine zS 0 (.res (fun _ res_ => ∃ p, res_ = .slice p 0 0) (fun _ _ _ _ f => f)) [] rfl t_kr t_kr ?_ ?_
     ·
      intro hD wD τD hL hS hO 
      have st16 := St.start hS
      refine OpsL.sliceZ st16 X ⟨_, Tryz.sizeOf9⟩ Tryz.underlying33 ?_
      intro v17 w18 f19 st20
      exact E ⟨_, _, rfl, st20, _, rfl, f19⟩
     refine zi 1 [] X t_kr t_kr X X (fun hD wD τD hL hS hO  => (zA (v := l_v) X))<|zi 2 [] X t_kr t_kr X X (fun hD wD τD hL hS hO  => (zo X)) ?_
     refine zi 3 [1, 0] rfl t_kr t_kr rfl rfl (fun hD wD τD hL hS hO _ _ _ _ => (r_slice_to_sl (l_f.up le2) rfl rfl (hk := rfl) (by omega) Tryz.underlying33 Tryz.sizeOf9)) ?_
     refine zaf<|zi 5 [] X t_kr t_kr X X (fun hD wD τD hL hS hO  => (r_mvS X)) ?_
     refine zS 6 (.res (fun h' res_ => Sl LStr h' res_ ([s])) (fun _ _ _ hl f => f.up hl)) [0] rfl t_kr t_kr ?_ ?_
     ·
      intro hD wD τD hL hS hO _ _
      have st21 := St.start hS
      refine zU (L := LStr) (xs := [s]) (cs := [strV s]) st21 (Enc.cons (L := LStr) (vs := [strV s]) (x := s) (h := hD) (⟨rfl, zZ⟩) Enc.nil) X X X Tryz.underlying33 Tryz.info9 X X X t_kr ?_
      intro v22 w23 h26 le27 f24 st25
      exact E ⟨_, _, rfl, st25, _, rfl, f24⟩
     refine zaf<|zi 8 [] X t_kr t_kr X X (fun hD wD τD hL hS hO  => (zA (v := l_v) X))<|zi 9 [] X t_kr t_kr X X (fun hD wD τD hL hS hO  => (zo X)) ?_
     refine zi 10 [1, 0] rfl t_kr t_kr rfl rfl (fun hD wD τD hL hS hO _ _ _ _ => (r_slice_from_sl (l_f.up le2) rfl rfl (hk := rfl) (by omega) Tryz.underlying33 Tryz.sizeOf9)) ?_
     refine zaf<|zaf<|zaq X X X X X X ⟨t_kr, X, t_kr, X, t_kr, X, X, t_kr, (zY X (zY X (zY X (zY X cx_nil))))⟩ ?_
     intro hE29 w30 _ le31 st32 gv0_x28 gf0_x28 _ _
     have st33 := st32.snoc
     have f34 := OSl.nil LStr 9 hE29
     have f35 := OSl.nil0 LStr 9 hE29 gf0_x28
     refine zQ (k := 0) (nb := 16) st33 f35 rfl (f14.up (le2.trans le31)) rfl rfl rfl Tryz.underlying33 Tryz.info9 rfl rfl rfl (by decide) rfl t_len t_len ?_
     intro v36 o37 w38 _ e39 f40 st41
     subst e39
     refine E ⟨_, rfl, _, _, Le.refl _, st41, ?_⟩
     intro hE43 w44 _ le45 st46 gv6_0x42 gf6_0x42
     refine zQ (k := 0) (nb := 16) st46 (f40.up le45) rfl gf6_0x42 rfl rfl rfl Tryz.underlying33 Tryz.info9 rfl rfl rfl (by decide) rfl t_len t_len ?_
     intro v47 o48 w49 _ e50 f51 st52
     subst e50
     refine E ⟨_, rfl, _, _, Le.refl _, st52, ?_⟩
     intro hE54 w55 _ le56 st57 _ _
     refine zQ (k := 0) (nb := 16) st57 (f51.up le56) rfl (f15.up (((le2.trans le31).trans le45).trans le56)) rfl rfl rfl Tryz.underlying33 Tryz.info9 rfl rfl rfl (by decide) rfl t_len t_len ?_
     intro v58 o59 w60 _ e61 f62 st63
     subst e61
     refine E ⟨_, rfl, _, _, Le.refl _, st63, ?_⟩
     intro hE65 w66 _ le67 st68 gv0_x64 gf0_x64 _ _ _ _ _ _ _ _ gv6_0x64 gf6_0x64 _ _ _ _ _ _
     refine Y X X (zG (v := v58) X) ?_
     refine E ⟨_, rfl, _, _, Le.refl _, st68, ?_⟩
     intro hE69 w70 _ le71 st72 gv0_x73 gf0_x73 _ _ _ _ _ _ _ _ gv6_0x73 gf6_0x73 _ _ _ _ _ _
     refine AllDeps.fin X<|M<|zy<|zh Tryz.results62 ?_
     obtain ⟨h74, le75, f76, st77⟩ := OSl.freeze (k := 0) st72 (f62.up (le67.trans le71)) rfl t_len
     refine ⟨h74, _, rfl, st77.done, ?_⟩
     refine ⟨_, rfl, Sl.to f76 ?_⟩
     first | exact (insBy_old hb h2 (by simp_all)).symm | exact (insBy_new hb h2 (by simp_all)).symm | (rw [insBy_new hb h2 (by first | simp_all | (intro q; have := (List.getElem?_eq_some_iff.1 q).1; omega))]; simp)
   ·
    replace g12 := of_decide_eq_false g12
    refine U X X (d := 24) X X X<|U X X (d := 24) X X X<|U X X (d := 24) X X X<|U X X (d := 24) X X X<|U X X (d := 24) X X X<|U X X (d := 24) X X X<|Y X X (zw (v := (.bool _)) X X)<|E<|M ?_
    refine zr rfl (fun c78 => ?_) (fun c78 => ?_)
    ·
     cases c78
    ·
     refine zB<|M<|zd ?_
     have f79 := Sl.take l_f (k := k) (by omega)
     have f80 := Sl.drop l_f (k := k) (by omega)
     refine zac (er := ([], [], [], [], 0)) (dsts := [33, 34, 35, 36, 37, 38, 39, 40, 41, 42, 43, 44, 4]) st3 Tryz.mixed ?_
     refine zS 0 (.res (fun _ res_ => ∃ p, res_ = .slice p 0 0) (fun _ _ _ _ f => f)) [] rfl t_kr t_kr ?_ ?_
     ·
      intro hD wD τD hL hS hO 
      have st81 := St.start hS
      refine OpsL.sliceZ st81 X ⟨_, Tryz.sizeOf9⟩ Tryz.underlying33 ?_
      intro v82 w83 f84 st85
      exact E ⟨_, _, rfl, st85, _, rfl, f84⟩
     refine zi 1 [] X t_kr t_kr X X (fun hD wD τD hL hS hO  => (zA (v := l_v) X))<|zi 2 [] X t_kr t_kr X X (fun hD wD τD hL hS hO  => (zo X)) ?_
     refine zi 3 [1, 0] rfl t_kr t_kr rfl rfl (fun hD wD τD hL hS hO _ _ _ _ => (r_slice_to_sl (l_f.up le2) rfl rfl (hk := rfl) (by omega) Tryz.underlying33 Tryz.sizeOf9)) ?_
     refine zaf<|zi 5 [] X t_kr t_kr X X (fun hD wD τD hL hS hO  => (r_mvS X)) ?_
     refine zS 6 (.res (fun h' res_ => Sl LStr h' res_ ([s])) (fun _ _ _ hl f => f.up hl)) [0] rfl t_kr t_kr ?_ ?_
     ·
      intro hD wD τD hL hS hO _ _
      have st86 := St.start hS
      refine zU (L := LStr) (xs := [s]) (cs := [strV s]) st86 (Enc.cons (L := LStr) (vs := [strV s]) (x := s) (h := hD) (⟨rfl, zZ⟩) Enc.nil) X X X Tryz.underlying33 Tryz.info9 X X X t_kr ?_
      intro v87 w88 h91 le92 f89 st90
      exact E ⟨_, _, rfl, st90, _, rfl, f89⟩
     refine zaf<|zi 8 [] X t_kr t_kr X X (fun hD wD τD hL hS hO  => (zA (v := l_v) X))<|zi 9 [] X t_kr t_kr X X (fun hD wD τD hL hS hO  => (zo X)) ?_
     refine zi 10 [1, 0] rfl t_kr t_kr rfl rfl (fun hD wD τD hL hS hO _ _ _ _ => (r_slice_from_sl (l_f.up le2) rfl rfl (hk := rfl) (by omega) Tryz.underlying33 Tryz.sizeOf9)) ?_
     refine zaf<|zaf<|zaq X X X X X X ⟨t_kr, X, t_kr, X, t_kr, X, X, t_kr, (zY X (zY X (zY X (zY X cx_nil))))⟩ ?_
     intro hE94 w95 _ le96 st97 gv0_x93 gf0_x93 _ _
     have st98 := st97.snoc
     have f99 := OSl.nil LStr 9 hE94
     have f100 := OSl.nil0 LStr 9 hE94 gf0_x93
     refine zQ (k := 0) (nb := 16) st98 f100 rfl (f79.up (le2.trans le96)) rfl rfl rfl Tryz.underlying33 Tryz.info9 rfl rfl rfl (by decide) rfl t_len t_len ?_
     intro v101 o102 w103 _ e104 f105 st106
     subst e104
     refine E ⟨_, rfl, _, _, Le.refl _, st106, ?_⟩
     intro hE108 w109 _ le110 st111 gv6_0x107 gf6_0x107
     refine zQ (k := 0) (nb := 16) st111 (f105.up le110) rfl gf6_0x107 rfl rfl rfl Tryz.underlying33 Tryz.info9 rfl rfl rfl (by decide) rfl t_len t_len ?_
     intro v112 o113 w114 _ e115 f116 st117
     subst e115
     refine E ⟨_, rfl, _, _, Le.refl _, st117, ?_⟩
     intro hE119 w120 _ le121 st122 _ _
     refine zQ (k := 0) (nb := 16) st122 (f116.up le121) rfl (f80.up (((le2.trans le96).trans le110).trans le121)) rfl rfl rfl Tryz.underlying33 Tryz.info9 rfl rfl rfl (by decide) rfl t_len t_len ?_
     intro v123 o124 w125 _ e126 f127 st128
     subst e126
     refine E ⟨_, rfl, _, _, Le.refl _, st128, ?_⟩
     intro hE130 w131 _ le132 st133 gv0_x129 gf0_x129 _ _ _ _ _ _ _ _ gv6_0x129 gf6_0x129 _ _ _ _ _ _
     refine Y X X (zG (v := v123) X) ?_
     refine E ⟨_, rfl, _, _, Le.refl _, st133, ?_⟩
     intro hE134 w135 _ le136 st137 gv0_x138 gf0_x138 _ _ _ _ _ _ _ _ gv6_0x138 gf6_0x138 _ _ _ _ _ _
     refine AllDeps.fin X<|M<|zy<|zh Tryz.results62 ?_
     obtain ⟨h139, le140, f141, st142⟩ := OSl.freeze (k := 0) st137 (f127.up (le132.trans le136)) rfl t_len
     refine ⟨h139, _, rfl, st142.done, ?_⟩
     refine ⟨_, rfl, Sl.to f141 ?_⟩
     first | exact (insBy_old hb h2 (by simp_all)).symm | exact (insBy_new hb h2 (by simp_all)).symm | (rw [insBy_new hb h2 (by first | simp_all | (intro q; have := (List.getElem?_eq_some_iff.1 q).1; omega))]; simp)
 ·
  replace g5 := of_decide_eq_false g5
  refine U X X (d := 10) X X X<|U X X (d := 10) X X X<|U X X (d := 10) X X X<|U X X (d := 10) X X X<|U X X (d := 10) X X X<|U X X (d := 10) X X X<|Y X X (zw (v := (.bool _)) X X)<|E<|M ?_
  refine zr rfl (fun c143 => ?_) (fun c143 => ?_)
  ·
   cases c143
  ·
   refine zab<|zn<|zn<|zT<|M<|zd<|zd ?_
   have h2 : ∀ y0, (l)[k]? = some y0 → sLt y0 s = false := by
    intro y0 h0
    first
     | (exfalso; have := (List.getElem?_eq_some_iff.1 h0).1; omega)
     | (rw [hy] at h0; cases h0; first | assumption | (simp_all [sLt]; done) | (simp_all; done))
   refine O<|Y X X (zo X)<|Y X X (zA (v := l_v) X)<|Y X X (zae (l_f.up le2) X Tryz.underlying33)<|Y X X (zam X X)<|Y X X (zN X) ?_
   refine zD (d := 24) rfl (fun g144 => ?_) (fun g144 => ?_)
   ·
    replace g144 := of_decide_eq_true g144
    refine za X X (d := 24) X<|Y X X (zA (v := l_v) X)<|za X X (d := 24) X<|Y X X (zo X)<|za X X (d := 24) X ?_
    have hy : ∃ y, (l)[k]? = some y := ⟨_, List.getElem?_eq_getElem (by omega)⟩
    obtain ⟨y, hy⟩ := hy
    obtain ⟨b145, o146, _, he148, hc147, hr_y⟩ := Sl.elem (l_f.up le2) hy
    obtain ⟨rfl, ls149⟩ := hr_y
    simp only [big] at ls149
    refine Y X X (zq he148 X X (hk := X) (hu := Tryz.underlying33) (hz := Tryz.sizeOf9))<|za X X (d := 24) X<|Y X X (zb (j := 0) st3.sub hc147 X X X Tryz.isAgg9)<|za X X (d := 24) X<|Y X X (r_mvS X)<|za X X (d := 24) X<|Y X X (r_seql X X)<|Y X X (zJ (v := (.bool _)) X X)<|E<|M ?_
    refine zr rfl (fun c150 => ?_) (fun c150 => ?_)
    ·
     replace c150 := of_decide_eq_true c150
     refine zd<|O<|Y X X (zA (v := l_v) X)<|Y X X (zG (v := l_v) X)<|E<|M<|zy<|zj<|zh Tryz.results62 ?_
     refine ⟨h1, _, rfl, st3.done, ?_⟩
     refine ⟨_, rfl, Sl.to (l_f.up le2) ?_⟩
     first | exact (insBy_old hb h2 (by simp_all)).symm | exact (insBy_new hb h2 (by simp_all)).symm | (rw [insBy_new hb h2 (by first | simp_all | (intro q; have := (List.getElem?_eq_some_iff.1 q).1; omega))]; simp)
    ·
     replace c150 := of_decide_eq_false c150
     refine zB<|M<|zd ?_
     have f151 := Sl.take l_f (k := k) (by omega)
     have f152 := Sl.drop l_f (k := k) (by omega)
     refine zac (er := ([], [], [], [], 0)) (dsts := [33, 34, 35, 36, 37, 38, 39, 40, 41, 42, 43, 44, 4]) st3 Tryz.mixed ?_
     refine zS 0 (.res (fun _ res_ => ∃ p, res_ = .slice p 0 0) (fun _ _ _ _ f => f)) [] rfl t_kr t_kr ?_ ?_
     ·
      intro hD wD τD hL hS hO 
      have st153 := St.start hS
      refine OpsL.sliceZ st153 X ⟨_, Tryz.sizeOf9⟩ Tryz.underlying33 ?_
      intro v154 w155 f156 st157
      exact E ⟨_, _, rfl, st157, _, rfl, f156⟩
     refine zi 1 [] X t_kr t_kr X X (fun hD wD τD hL hS hO  => (zA (v := l_v) X))<|zi 2 [] X t_kr t_kr X X (fun hD wD τD hL hS hO  => (zo X)) ?_
     refine zi 3 [1, 0] rfl t_kr t_kr rfl rfl (fun hD wD τD hL hS hO _ _ _ _ => (r_slice_to_sl (l_f.up le2) rfl rfl (hk := rfl) (by omega) Tryz.underlying33 Tryz.sizeOf9)) ?_
     refine zaf<|zi 5 [] X t_kr t_kr X X (fun hD wD τD hL hS hO  => (r_mvS X)) ?_
     refine zS 6 (.res (fun h' res_ => Sl LStr h' res_ ([s])) (fun _ _ _ hl f => f.up hl)) [0] rfl t_kr t_kr ?_ ?_
     ·
      intro hD wD τD hL hS hO _ _
      have st158 := St.start hS
      refine zU (L := LStr) (xs := [s]) (cs := [strV s]) st158 (Enc.cons (L := LStr) (vs := [strV s]) (x := s) (h := hD) (⟨rfl, zZ⟩) Enc.nil) X X X Tryz.underlying33 Tryz.info9 X X X t_kr ?_
      intro v159 w160 h163 le164 f161 st162
      exact E ⟨_, _, rfl, st162, _, rfl, f161⟩
     refine zaf<|zi 8 [] X t_kr t_kr X X (fun hD wD τD hL hS hO  => (zA (v := l_v) X))<|zi 9 [] X t_kr t_kr X X (fun hD wD τD hL hS hO  => (zo X)) ?_
     refine zi 10 [1, 0] rfl t_kr t_kr rfl rfl (fun hD wD τD hL hS hO _ _ _ _ => (r_slice_from_sl (l_f.up le2) rfl rfl (hk := rfl) (by omega) Tryz.underlying33 Tryz.sizeOf9)) ?_
     refine zaf<|zaf<|zaq X X X X X X ⟨t_kr, X, t_kr, X, t_kr, X, X, t_kr, (zY X (zY X (zY X (zY X cx_nil))))⟩ ?_
     intro hE166 w167 _ le168 st169 gv0_x165 gf0_x165 _ _
     have st170 := st169.snoc
     have f171 := OSl.nil LStr 9 hE166
     have f172 := OSl.nil0 LStr 9 hE166 gf0_x165
     refine zQ (k := 0) (nb := 16) st170 f172 rfl (f151.up (le2.trans le168)) rfl rfl rfl Tryz.underlying33 Tryz.info9 rfl rfl rfl (by decide) rfl t_len t_len ?_
     intro v173 o174 w175 _ e176 f177 st178
     subst e176
     refine E ⟨_, rfl, _, _, Le.refl _, st178, ?_⟩
     intro hE180 w181 _ le182 st183 gv6_0x179 gf6_0x179
     refine zQ (k := 0) (nb := 16) st183 (f177.up le182) rfl gf6_0x179 rfl rfl rfl Tryz.underlying33 Tryz.info9 rfl rfl rfl (by decide) rfl t_len t_len ?_
     intro v184 o185 w186 _ e187 f188 st189
     subst e187
     refine E ⟨_, rfl, _, _, Le.refl _, st189, ?_⟩
     intro hE191 w192 _ le193 st194 _ _
     refine zQ (k := 0) (nb := 16) st194 (f188.up le193) rfl (f152.up (((le2.trans le168).trans le182).trans le193)) rfl rfl rfl Tryz.underlying33 Tryz.info9 rfl rfl rfl (by decide) rfl t_len t_len ?_
     intro v195 o196 w197 _ e198 f199 st200
     subst e198
     refine E ⟨_, rfl, _, _, Le.refl _, st200, ?_⟩
     intro hE202 w203 _ le204 st205 gv0_x201 gf0_x201 _ _ _ _ _ _ _ _ gv6_0x201 gf6_0x201 _ _ _ _ _ _
     refine Y X X (zG (v := v195) X) ?_
     refine E ⟨_, rfl, _, _, Le.refl _, st205, ?_⟩
     intro hE206 w207 _ le208 st209 gv0_x210 gf0_x210 _ _ _ _ _ _ _ _ gv6_0x210 gf6_0x210 _ _ _ _ _ _
     refine AllDeps.fin X<|M<|zy<|zh Tryz.results62 ?_
     obtain ⟨h211, le212, f213, st214⟩ := OSl.freeze (k := 0) st209 (f199.up (le204.trans le208)) rfl t_len
     refine ⟨h211, _, rfl, st214.done, ?_⟩
     refine ⟨_, rfl, Sl.to f213 ?_⟩
     first | exact (insBy_old hb h2 (by simp_all)).symm | exact (insBy_new hb h2 (by simp_all)).symm | (rw [insBy_new hb h2 (by first | simp_all | (intro q; have := (List.getElem?_eq_some_iff.1 q).1; omega))]; simp)
   ·
    replace g144 := of_decide_eq_false g144
    refine U X X (d := 24) X X X<|U X X (d := 24) X X X<|U X X (d := 24) X X X<|U X X (d := 24) X X X<|U X X (d := 24) X X X<|U X X (d := 24) X X X<|Y X X (zw (v := (.bool _)) X X)<|E<|M ?_
    refine zr rfl (fun c215 => ?_) (fun c215 => ?_)
    ·
     cases c215
    ·
     refine zB<|M<|zd ?_
     have f216 := Sl.take l_f (k := k) (by omega)
     have f217 := Sl.drop l_f (k := k) (by omega)
     refine zac (er := ([], [], [], [], 0)) (dsts := [33, 34, 35, 36, 37, 38, 39, 40, 41, 42, 43, 44, 4]) st3 Tryz.mixed ?_
     refine zS 0 (.res (fun _ res_ => ∃ p, res_ = .slice p 0 0) (fun _ _ _ _ f => f)) [] rfl t_kr t_kr ?_ ?_
     ·
      intro hD wD τD hL hS hO 
      have st218 := St.start hS
      refine OpsL.sliceZ st218 X ⟨_, Tryz.sizeOf9⟩ Tryz.underlying33 ?_
      intro v219 w220 f221 st222
      exact E ⟨_, _, rfl, st222, _, rfl, f221⟩
     refine zi 1 [] X t_kr t_kr X X (fun hD wD τD hL hS hO  => (zA (v := l_v) X))<|zi 2 [] X t_kr t_kr X X (fun hD wD τD hL hS hO  => (zo X)) ?_
     refine zi 3 [1, 0] rfl t_kr t_kr rfl rfl (fun hD wD τD hL hS hO _ _ _ _ => (r_slice_to_sl (l_f.up le2) rfl rfl (hk := rfl) (by omega) Tryz.underlying33 Tryz.sizeOf9)) ?_
     refine zaf<|zi 5 [] X t_kr t_kr X X (fun hD wD τD hL hS hO  => (r_mvS X)) ?_
     refine zS 6 (.res (fun h' res_ => Sl LStr h' res_ ([s])) (fun _ _ _ hl f => f.up hl)) [0] rfl t_kr t_kr ?_ ?_
     ·
      intro hD wD τD hL hS hO _ _
      have st223 := St.start hS
      refine zU (L := LStr) (xs := [s]) (cs := [strV s]) st223 (Enc.cons (L := LStr) (vs := [strV s]) (x := s) (h := hD) (⟨rfl, zZ⟩) Enc.nil) X X X Tryz.underlying33 Tryz.info9 X X X t_kr ?_
      intro v224 w225 h228 le229 f226 st227
      exact E ⟨_, _, rfl, st227, _, rfl, f226⟩
     refine zaf<|zi 8 [] X t_kr t_kr X X (fun hD wD τD hL hS hO  => (zA (v := l_v) X))<|zi 9 [] X t_kr t_kr X X (fun hD wD τD hL hS hO  => (zo X)) ?_
     refine zi 10 [1, 0] rfl t_kr t_kr rfl rfl (fun hD wD τD hL hS hO _ _ _ _ => (r_slice_from_sl (l_f.up le2) rfl rfl (hk := rfl) (by omega) Tryz.underlying33 Tryz.sizeOf9)) ?_
     refine zaf<|zaf<|zaq X X X X X X ⟨t_kr, X, t_kr, X, t_kr, X, X, t_kr, (zY X (zY X (zY X (zY X cx_nil))))⟩ ?_
     intro hE231 w232 _ le233 st234 gv0_x230 gf0_x230 _ _
     have st235 := st234.snoc
     have f236 := OSl.nil LStr 9 hE231
     have f237 := OSl.nil0 LStr 9 hE231 gf0_x230
     refine zQ (k := 0) (nb := 16) st235 f237 rfl (f216.up (le2.trans le233)) rfl rfl rfl Tryz.underlying33 Tryz.info9 rfl rfl rfl (by decide) rfl t_len t_len ?_
     intro v238 o239 w240 _ e241 f242 st243
     subst e241
     refine E ⟨_, rfl, _, _, Le.refl _, st243, ?_⟩
     intro hE245 w246 _ le247 st248 gv6_0x244 gf6_0x244
     refine zQ (k := 0) (nb := 16) st248 (f242.up le247) rfl gf6_0x244 rfl rfl rfl Tryz.underlying33 Tryz.info9 rfl rfl rfl (by decide) rfl t_len t_len ?_
     intro v249 o250 w251 _ e252 f253 st254
     subst e252
     refine E ⟨_, rfl, _, _, Le.refl _, st254, ?_⟩
     intro hE256 w257 _ le258 st259 _ _
     refine zQ (k := 0) (nb := 16) st259 (f253.up le258) rfl (f217.up (((le2.trans le233).trans le247).trans le258)) rfl rfl rfl Tryz.underlying33 Tryz.info9 rfl rfl rfl (by decide) rfl t_len t_len ?_
     intro v260 o261 w262 _ e263 f264 st265
     subst e263
     refine E ⟨_, rfl, _, _, Le.refl _, st265, ?_⟩
     intro hE267 w268 _ le269 st270 gv0_x266 gf0_x266 _ _ _ _ _ _ _ _ gv6_0x266 gf6_0x266 _ _ _ _ _ _
     refine Y X X (zG (v := v260) X) ?_
     refine E ⟨_, rfl, _, _, Le.refl _, st270, ?_⟩
     intro hE271 w272 _ le273 st274 gv0_x275 gf0_x275 _ _ _ _ _ _ _ _ gv6_0x275 gf6_0x275 _ _ _ _ _ _
     refine AllDeps.fin X<|M<|zy<|zh Tryz.results62 ?_
     obtain ⟨h276, le277, f278, st279⟩ := OSl.freeze (k := 0) st274 (f264.up (le269.trans le273)) rfl t_len
     refine ⟨h276, _, rfl, st279.done, ?_⟩
     refine ⟨_, rfl, Sl.to f278 ?_⟩
     first | exact (insBy_old hb h2 (by simp_all)).symm | exact (insBy_new hb h2 (by simp_all)).symm | (rw [insBy_new hb h2 (by first | simp_all | (intro q; have := (List.getElem?_eq_some_iff.1 q).1; omega))]; simp)
set_option maxRecDepth 4000 in
theorem c_postilref04_Under {h : Heap} {w : World} (hs : Sub h w) {t : Text} {t_v0 : Value} (t_f0 : Sl LChapter h t_v0 t.chapters) {x : Lexicon} {x_v0 : Value} (x_f0 : Sl LRule h x_v0 x.rules) {x_v1 : Value} (x_f1 : Sl LDecision h x_v1 x.decisions) {hd : Head} (hd_l1 : hd.stem.length ≤ 281474976710656) (hd_l2 : 0 ≤ hd.mark ∧ hd.mark ≤ 255) : Calls Tryz.prog 36 #[.agg #[t_v0], .agg #[x_v0, x_v1], .agg #[strV hd.stem, .int .u8 hd.mark]] w (Rets h w (fun h' _ res_ => ∃ u0, res_ = .tuple #[u0, .int .i64 (underE t x hd)] ∧ Sl LPlace h' u0 ((underR t x hd)))) := by
 refine zM (n := 50) (args := [.agg #[t_v0], .agg #[x_v0, x_v1], .agg #[strV hd.stem, .int .u8 hd.mark]]) Tryz.func36 X X X ?_
 have st0 : St h w h w [] := St.start hs
 have t_f0_b := t_f0.le
 have x_f0_b := x_f0.le
 have x_f1_b := x_f1.le
 refine zd<|O<|zp st0 (cs := [t_v0]) X X X ?_
 intro b1 w2 h3 le4 hc5 st6
 refine zp st6 (cs := [x_v0, x_v1]) X X X ?_
 intro b7 w8 h9 le10 hc11 st12
 refine zp st12 (cs := [strV (hd.stem), .int .u8 (hd.mark)]) X X X ?_
 intro b13 w14 h15 le16 hc17 st18
 refine Y X X (r_asL X)<|Y X X (zz X)<|E<|M<|zd<|zd<|O<|Y X X (zf st18.sub (hc5.up (le10.trans le16)) X Tryz.isAgg24 Tryz.sizeOf24 X)<|Y X X (zf st18.sub (hc11.up le16) X Tryz.isAgg28 Tryz.sizeOf28 X)<|zm st18 X X X Tryz.call15 X (c_postilref04_Check st18.sub (t := t) (t_f0.up ((le4.trans le10).trans le16)) (x := x) (x_f0.up ((le4.trans le10).trans le16)) (x_f1.up ((le4.trans le10).trans le16))) ?_
 intro r19 w20 h21 le22 st23 q24
 obtain rfl := q24
 refine Y X X (zz X)<|E<|M<|zd<|O<|Y X X (zo X)<|Y X X (r_neq X X)<|E<|M ?_
 refine zr rfl (fun c25 => ?_) (fun c25 => ?_)
 ·
  replace c25 := of_decide_eq_true c25
  refine zd<|O<|Y X X (zo X)<|Y X X (r_asL X)<|Y X X (zz X)<|E<|M<|zy<|zj<|zP Tryz.results36 ?_
  refine ⟨h21, _, rfl, st23.done, ?_⟩
  refine ⟨_, tup2 rfl (zV ?_), Sl.to (Sl.nil _ _) ?_⟩
  all_goals simp_all [underR, underE]
 ·
  replace c25 := of_decide_eq_false c25
  refine zB<|M<|zd<|zd<|O<|Y X X (zf st23.sub (hc17.up le22) X Tryz.isAgg54 Tryz.sizeOf54 X)<|zm st23 X X X Tryz.call80 X (c_postilref04_Head st23.sub (hd := hd) zZ t_u8) ?_
  intro r26 w27 h28 le29 st30 q31
  obtain rfl := q31
  refine Y X X (r_not X)<|E<|M ?_
  refine zr rfl (fun c32 => ?_) (fun c32 => ?_)
  ·
   refine zd<|O<|Y X X (r_asL X)<|Y X X (zz X)<|E<|M<|zy<|zj<|zP Tryz.results36 ?_
   refine ⟨h28, _, rfl, st30.done, ?_⟩
   refine ⟨_, tup2 rfl (zV ?_), Sl.to (Sl.nil _ _) ?_⟩
   all_goals simp_all [underR, underE]
  ·
   refine zB<|M<|zd<|O<|Y X X (r_asL X)<|E<|M<|zd ?_
   have hx0 : checkN t x = 0 := by simpa using c25
   have hh0 : headB hd = true := by simpa using c32
   refine zac (er := ([], [], [], [], 0)) (dsts := [22, 23, 24, 25, 26, 10, 11]) st30 Tryz.mixed<|zi 0 [] X t_kr t_kr X X (fun hD wD τD hL hS hO  => (zf (hL.sub hS) (hc5.up (((le10.trans le16).trans le22).trans le29)) X Tryz.isAgg24 Tryz.sizeOf24 X)) ?_
   refine zS 1 (.res (fun h' res_ => Sl LPlace h' res_ ((placesT (t)))) (fun _ _ _ hl f => f.up hl)) [0] rfl t_kr t_kr ?_ ?_
   ·
    intro hD wD τD hL hS hO _ _
    have st33 := St.start hS
    refine zm st33 rfl rfl rfl Tryz.call59 rfl (c_postilref01_All st33.sub (t := t) (t_f0.up (((((le4.trans le10).trans le16).trans le22).trans le29).trans hL)) (by exact check_text hx0)) ?_
    intro r34 w35 h36 le37 st38 q39
    obtain ⟨v40, e42, f41⟩ := q39
    rw [← e42] at f41
    have f41_b := f41.le
    exact E ⟨_, _, rfl, st38, _, rfl, f41⟩
   refine zi 2 [] X t_kr t_kr X X (fun hD wD τD hL hS hO  => (zf (hL.sub hS) (hc5.up (((le10.trans le16).trans le22).trans le29)) X Tryz.isAgg24 Tryz.sizeOf24 X))<|zi 3 [] X t_kr t_kr X X (fun hD wD τD hL hS hO  => (zf (hL.sub hS) (hc11.up ((le16.trans le22).trans le29)) X Tryz.isAgg28 Tryz.sizeOf28 X)) ?_
   refine zS 4 (.res (fun h' res_ => Sl LHead h' res_ ((headsL (t) (x)))) (fun _ _ _ hl f => f.up hl)) [1, 0, 2] rfl t_kr t_kr ?_ ?_
   ·
    intro hD wD τD hL hS hO _ _ _ _ gv1_0 gf1_0
    have st43 := St.start hS
    refine zm st43 rfl rfl rfl Tryz.call60 rfl (c_postilref04_All st43.sub (t := t) (t_f0.up (((((le4.trans le10).trans le16).trans le22).trans le29).trans hL)) (x := x) (x_f0.up (((((le4.trans le10).trans le16).trans le22).trans le29).trans hL)) (x_f1.up (((((le4.trans le10).trans le16).trans le22).trans le29).trans hL)) (by exact hx0)) ?_
    intro r44 w45 h46 le47 st48 q49
    obtain ⟨v50, e52, f51⟩ := q49
    rw [← e52] at f51
    have f51_b := f51.le
    exact E ⟨_, _, rfl, st48, _, rfl, f51⟩
   refine zS 5 (.res (fun h' res_ => Sl LPlace h' res_ (((placesT (t))))) (fun _ _ _ hl f => f.up hl)) [0, 4, 3] rfl t_kr t_kr ?_ ?_
   ·
    intro hD wD τD hL hS hO gv4_0 gf4_0 _ _ gv1_0 gf1_0
    have st53 := St.start hS
    refine Y X X (zG (v := gv1_0) X) ?_
    exact E ⟨_, _, rfl, st53, _, rfl, gf1_0⟩
   refine zS 6 (.res (fun h' res_ => Sl LHead h' res_ (((headsL (t) (x))))) (fun _ _ _ hl f => f.up hl)) [5, 4, 3, 2, 1, 0] rfl t_kr t_kr ?_ ?_
   ·
    intro hD wD τD hL hS hO _ _ gv1_0 gf1_0 _ _ _ _ gv4_0 gf4_0 gv5_0 gf5_0
    have st54 := St.start hS
    refine Y X X (zG (v := gv4_0) X) ?_
    exact E ⟨_, _, rfl, st54, _, rfl, gf4_0⟩
   refine zaq X X X X X X ⟨t_kr, X, t_kr, X, t_kr, X, X, t_kr, cx_nil⟩ ?_
   intro hE55 w56 _ le57 st58 _ _ gv1_0x59 gf1_0x59 _ _ _ _ gv4_0x59 gf4_0x59 gv5_0x59 gf5_0x59 gv6_0x59 gf6_0x59
   refine AllDeps.fin X ?_
   have hpl := places_len (check_text hx0)
   have hhl : (headsL t x).length = (placesT t).length := by rw [headsL, List.length_map]
   refine M<|zd<|zd<|O<|Y X X (zz X)<|E<|M<|zF ?_
   have st63 := st58.snoc
   have f64 := OSl.nil LPlace 52 hE55
   refine zW [9, 12, 27, 28, 29, 30, 31, 32, 33, 34, 35, 36, 37, 38, 39, 40, 41, 42, 43, 44, 45] (G := Nat × Value × List (Nat × Obj) × Heap) (fun ⟨i, v_9, o_9, h60⟩ => [(9, v_9), (12, .int .i64 (i : Int))]) (fun ⟨i, v_9, o_9, h60⟩ w' => Le hE55 h60 ∧ St h w h60 w' [o_9] ∧ (OSl LPlace 52 h60 v_9 (((placesT t).take i).filter fun p => decide (headAt t x p = hd)) o_9) ∧ (i ≤ (placesT t).length)) (fun ⟨i, v_9, o_9, h60⟩ => (placesT t).length - i) ⟨0, (.slice none 0 0), [], hE55⟩ ⟨rfl, rfl, trivial⟩ ⟨Le.refl _, st63, (OSl.to f64 (by rfl)), zak⟩ ?_
   rintro ⟨i, v_9, o_9, h60⟩ _ w65 ⟨le61, st62, hO_9, hi⟩
   refine zd<|zd<|O<|Y X X (zo X)<|Y X X (zA (v := gv6_0x59) X)<|Y X X (zae (gf6_0x59.up le61) X Tryz.underlying80)<|Y X X (zam X X)<|E<|M ?_
   refine zr rfl (fun c66 => ?_) (fun c66 => ?_)
   ·
    replace c66 := of_decide_eq_true c66
    refine zB<|M<|zd<|zF<|zd<|zaj Tryz.mixed t_kr (Cls h60 _) (Cls.drew st62)<|ze X X (fun _ _ => (zA (v := gv6_0x59) X))<|ze X X (fun _ _ => (zo X)) ?_
    have hhh : ∃ y, ((((headsL (t) (x)))))[i]? = some y := ⟨_, List.getElem?_eq_getElem (by omega)⟩
    obtain ⟨hh, hhh⟩ := hhh
    obtain ⟨b67, o68, _, he70, hc69, hr_hh⟩ := Sl.elem (gf6_0x59.up le61) hhh
    obtain ⟨rfl, ls71, lu72⟩ := hr_hh
    simp only [big] at ls71
    refine ze X X (fun _ _ => (zq he70 X X (hk := X) (hu := Tryz.underlying80) (hz := Tryz.sizeOf54)))<|ze X X (fun _ hC => (zf hC.sub hc69 X Tryz.isAgg54 Tryz.sizeOf54 X))<|ze X X (fun _ hC => (zf hC.sub (hc17.up (((le22.trans le29).trans le57).trans le61)) X Tryz.isAgg54 Tryz.sizeOf54 X))<|ze X X (fun _ _ => (r_steql X X Tryz.eqGuardType54 (Tryz.eq_Head hh hd)))<|zad ?_
    rintro w73 ⟨h74, s75⟩
    have st76 := st62.call0 s75
    refine M ?_
    refine zr rfl (fun c77 => ?_) (fun c77 => ?_)
    ·
     replace c77 := of_decide_eq_true c77
     have hp2 : (headsL t x)[i]? = ((placesT t)[i]?).map (headAt t x) := by rw [headsL, List.getElem?_map]
     refine O<|Y X X (zA (v := v_9) X)<|Y X X (zA (v := gv5_0x59) X)<|Y X X (zo X) ?_
     have hp : ∃ y, ((((placesT (t)))))[i]? = some y := ⟨_, List.getElem?_eq_getElem (by omega)⟩
     obtain ⟨p, hp⟩ := hp
     obtain ⟨b78, o79, _, he81, hc80, hr_p⟩ := Sl.elem (gf5_0x59.up (le61.trans s75.le)) hp
     obtain rfl := hr_p
     refine Y X X (zq he81 X X (hk := X) (hu := Tryz.underlying63) (hz := Tryz.sizeOf52))<|Y X X (zf st76.sub hc80 X Tryz.isAgg52 Tryz.sizeOf52 X)<|zU (L := LPlace) (xs := [p]) (cs := [.int .i64 (p.chapter), .int .i64 (p.line), .int .i64 (p.word)]) st76 (Enc.cons (L := LPlace) (vs := [.int .i64 (p.chapter), .int .i64 (p.line), .int .i64 (p.word)]) (x := p) (h := h74) (X) Enc.nil) X X X Tryz.underlying63 Tryz.info52 X X X t_kr ?_
     intro v82 w83 h86 le87 f84 st85
     refine zQ (k := 0) (nb := 24) st85 (hO_9.up (s75.le.trans le87)) rfl f84 rfl rfl rfl Tryz.underlying63 Tryz.info52 rfl rfl rfl (by decide) rfl (by have q := List.length_filter_le (fun p => decide (headAt t x p = hd)) ((placesT t).take i); rw [List.length_take] at q; first | omega | (simp only [List.length_append, List.length_cons, List.length_nil]; omega)) (by have q := List.length_filter_le (fun p => decide (headAt t x p = hd)) ((placesT t).take i); rw [List.length_take] at q; first | omega | (simp only [List.length_append, List.length_cons, List.length_nil]; omega)) ?_
     intro v88 o89 w90 _ e91 f92 st93
     subst e91
     refine Y X X (zG (v := v88) X)<|E<|zL<|M<|O<|Y X X (zo X)<|Y X X (zai X X t_om)<|Y X X (zz X)<|E<|M ?_
     refine ⟨⟨i + 1, v88, o89, h86⟩, ⟨rfl, rfl, trivial⟩, ?_, ⟨((le61.trans s75.le).trans le87), st93, ?_, ?_⟩, ?_⟩
     ·exact zag
     ·refine OSl.to f92 ?_
      rw [hp, hhh] at hp2
      rw [take_snoc hp, List.filter_append]; simp only [Option.map_some, Option.some.injEq] at hp2; rw [List.filter_cons, if_pos (by rw [← hp2]; simpa using c77)]; rfl
     ·first | omega | (simp; omega)
     ·show (placesT t).length - ((i + 1)) < (placesT t).length - i
      omega
    ·
     replace c77 := of_decide_eq_false c77
     refine zB<|zL<|M<|O<|Y X X (zo X)<|Y X X (zai X X t_om)<|Y X X (zz X)<|E<|M ?_
     refine ⟨⟨i + 1, v_9, o_9, h74⟩, ⟨rfl, rfl, trivial⟩, ?_, ⟨(le61.trans s75.le), st76, ?_, ?_⟩, ?_⟩
     ·exact zag
     ·refine OSl.to (hO_9.up s75.le) ?_
      have hp : (placesT t)[i]? = some (placesT t)[i] := List.getElem?_eq_getElem (by omega)
      have hp2 : (headsL t x)[i]? = ((placesT t)[i]?).map (headAt t x) := by rw [headsL, List.getElem?_map]
      rw [hp, hhh] at hp2
      rw [take_snoc hp, List.filter_append]; simp only [Option.map_some, Option.some.injEq] at hp2; rw [List.filter_cons, if_neg (by rw [← hp2]; simpa using c77)]; simp
     ·first | omega | (simp; omega)
     ·show (placesT t).length - ((i + 1)) < (placesT t).length - i
      omega
   ·
    replace c66 := of_decide_eq_false c66
    refine zab<|zn<|zn<|zT<|M<|zd<|zd<|O<|Y X X (zA (v := v_9) X)<|Y X X (r_len_own hO_9 X Tryz.underlying63)<|Y X X (r_eql X X)<|E<|M ?_
    refine zr rfl (fun c94 => ?_) (fun c94 => ?_)
    ·
     replace c94 := of_decide_eq_true c94
     refine zd<|O<|Y X X (r_asL X)<|Y X X (zz X)<|E<|M<|zy<|zj<|zP Tryz.results36 ?_
     have hfu : ((placesT t).take i).filter (fun p => decide (headAt t x p = hd)) = underP t x hd := by rw [List.take_of_length_le (by omega)]; rfl
     refine ⟨h60, _, rfl, st62.done, ?_⟩
     refine ⟨_, tup2 rfl (zV ?_), Sl.to (Sl.nil _ _) ?_⟩
     all_goals (have q1 := c94; rw [hfu] at q1; have q2 : underP t x hd = [] := List.eq_nil_of_length_eq_zero (by omega))
     all_goals simp_all [underR, underE]
    ·
     replace c94 := of_decide_eq_false c94
     refine zB<|M<|zd<|O<|Y X X (zA (v := v_9) X)<|Y X X (zG (v := v_9) X)<|Y X X (zz X)<|E<|M<|zy<|zP Tryz.results36 ?_
     obtain ⟨h95, le96, f97, st98⟩ := OSl.freeze (k := 0) st62 hO_9 rfl (by have q := List.length_filter_le (fun p => decide (headAt t x p = hd)) ((placesT t).take i); rw [List.length_take] at q; first | omega | (simp only [List.length_append, List.length_cons, List.length_nil]; omega))
     have hfu : ((placesT t).take i).filter (fun p => decide (headAt t x p = hd)) = underP t x hd := by rw [List.take_of_length_le (by omega)]; rfl
     refine ⟨h95, _, rfl, st98.done, ?_⟩
     refine ⟨_, tup2 rfl (zV ?_), Sl.to f97 ?_⟩
     all_goals (have q1 := c94; rw [hfu] at q1; have q2 : ¬ underP t x hd = [] := by intro q; rw [q] at q1; simp at q1)
     ·simp [underE, hx0, hh0, q2]
     ·rw [hfu]; simp [underR, underE, hx0, hh0, q2]
set_option maxRecDepth 4000 in
theorem c_postilref04_Forms {h : Heap} {w : World} (hs : Sub h w) {t : Text} {t_v0 : Value} (t_f0 : Sl LChapter h t_v0 t.chapters) {x : Lexicon} {x_v0 : Value} (x_f0 : Sl LRule h x_v0 x.rules) {x_v1 : Value} (x_f1 : Sl LDecision h x_v1 x.decisions) {hd : Head} (hd_l1 : hd.stem.length ≤ 281474976710656) (hd_l2 : 0 ≤ hd.mark ∧ hd.mark ≤ 255) : Calls Tryz.prog 38 #[.agg #[t_v0], .agg #[x_v0, x_v1], .agg #[strV hd.stem, .int .u8 hd.mark]] w (Rets h w (fun h' _ res_ => ∃ u0, res_ = .tuple #[u0, .int .i64 (underE t x hd)] ∧ Sl LStr h' u0 ((formsR t x hd)))) := by
 refine zM (n := 37) (args := [.agg #[t_v0], .agg #[x_v0, x_v1], .agg #[strV hd.stem, .int .u8 hd.mark]]) Tryz.func38 X X X ?_
 have st0 : St h w h w [] := St.start hs
 have t_f0_b := t_f0.le
 have x_f0_b := x_f0.le
 have x_f1_b := x_f1.le
 refine zd<|O<|zp st0 (cs := [t_v0]) X X X ?_
 intro b1 w2 h3 le4 hc5 st6
 refine zp st6 (cs := [x_v0, x_v1]) X X X ?_
 intro b7 w8 h9 le10 hc11 st12
 refine zp st12 (cs := [strV (hd.stem), .int .u8 (hd.mark)]) X X X ?_
 intro b13 w14 h15 le16 hc17 st18
 refine Y X X (r_asL X)<|Y X X (zz X)<|E<|M<|zd<|O<|Y X X (zf st18.sub (hc5.up (le10.trans le16)) X Tryz.isAgg24 Tryz.sizeOf24 X)<|Y X X (zf st18.sub (hc11.up le16) X Tryz.isAgg28 Tryz.sizeOf28 X)<|Y X X (zf st18.sub hc17 X Tryz.isAgg54 Tryz.sizeOf54 X)<|zm st18 X X X Tryz.call36 X (c_postilref04_Under st18.sub (t := t) (t_f0.up ((le4.trans le10).trans le16)) (x := x) (x_f0.up ((le4.trans le10).trans le16)) (x_f1.up ((le4.trans le10).trans le16)) (hd := hd) zZ t_u8) ?_
 intro r19 w20 h21 le22 st23 q24
 obtain ⟨v25, rfl, f26⟩ := q24
 have f26_b := f26.le
 refine Y X X (r_mvT X)<|Y X X (zC (v := v25) X X)<|Y X X (zC (v := (.int _ _)) X X)<|Y X X (zG (v := v25) X)<|Y X X (zz X)<|E<|M<|zd<|zd<|O<|Y X X (zo X)<|Y X X (r_neq X X)<|E<|M ?_
 refine zr rfl (fun c27 => ?_) (fun c27 => ?_)
 ·
  replace c27 := of_decide_eq_true c27
  refine zd<|O<|Y X X (zo X)<|Y X X (r_asL X)<|Y X X (zz X)<|E<|M<|zy<|zj<|zP Tryz.results38 ?_
  refine ⟨h21, _, rfl, st23.done, ?_⟩
  refine ⟨_, tup2 rfl (zV ?_), Sl.to (Sl.nil _ _) ?_⟩
  all_goals simp_all [formsR]
 ·
  replace c27 := of_decide_eq_false c27
  refine zB<|M<|zd ?_
  have hu0 : underE t x hd = 0 := by simpa using c27
  have hx0 : checkN t x = 0 := under_check hu0
  have hur : underR t x hd = underP t x hd := by rw [underR, if_pos hu0]
  have hul : (underR t x hd).length ≤ 600 := by rw [hur]; exact Nat.le_trans (List.length_filter_le _ _) (places_len (check_text hx0))
  refine O<|Y X X (r_asL X)<|E<|M<|zd<|zd<|O<|Y X X (zz X)<|E<|M<|zF ?_
  refine zW [10, 11, 22, 23, 24, 25, 26, 27, 28, 29, 30, 31, 32, 33, 34, 35] (G := Nat × Value × Heap) (fun ⟨i, v_10, h28⟩ => [(10, v_10), (11, .int .i64 (i : Int))]) (fun ⟨i, v_10, h28⟩ w' => Le h21 h28 ∧ St h w h28 w' [] ∧ (Sl LStr h28 v_10 ((setL sLt (((underR t x hd).take i).map (wordD t))))) ∧ (i ≤ (underR t x hd).length)) (fun ⟨i, v_10, h28⟩ => (underR t x hd).length - i) ⟨0, (.slice none 0 0), h21⟩ ⟨rfl, rfl, trivial⟩ ⟨Le.refl _, st23, (Sl.to (Sl.nil LStr h21) (by rfl)), zak⟩ ?_
  rintro ⟨i, v_10, h28⟩ _ w31 ⟨le29, st30, hF_10, hi⟩
  refine zd<|zd<|O<|Y X X (zo X)<|Y X X (zA (v := v25) X)<|Y X X (zae (f26.up le29) X Tryz.underlying63)<|Y X X (zam X X)<|E<|M ?_
  refine zr rfl (fun c32 => ?_) (fun c32 => ?_)
  ·
   replace c32 := of_decide_eq_true c32
   refine zB<|M<|zd<|zF ?_
   have hp : ∃ y, ((underR (t) (x) (hd)))[i]? = some y := ⟨_, List.getElem?_eq_getElem (by omega)⟩
   obtain ⟨p, hp⟩ := hp
   obtain ⟨b33, o34, _, he36, hc35, hr_p⟩ := Sl.elem (f26.up le29) hp
   obtain rfl := hr_p
   have hp0 : placeB t p = true := by rw [hur] at hp; exact placesT_mem (List.mem_filter.1 (List.mem_of_getElem? hp)).1
   have hw12 := wordD_len (check_text hx0) hp0
   have hsl := setL_len sLt_T (((underR t x hd).take i).map (wordD t))
   rw [List.length_map, List.length_take] at hsl
   refine zac (er := ([], [10], [0], [], 0)) (dsts := [28, 29, 30, 31, 32, 33, 34, 35, 10]) st30 Tryz.mixed<|zi 0 [] X t_kr t_kr X X (fun hD wD τD hL hS hO  => (zA (v := v_10) X))<|zi 1 [] X t_kr t_kr X X (fun hD wD τD hL hS hO  => (zf (hL.sub hS) (hc5.up (((le10.trans le16).trans le22).trans le29)) X Tryz.isAgg24 Tryz.sizeOf24 X))<|zi 2 [] X t_kr t_kr X X (fun hD wD τD hL hS hO  => (zA (v := v25) X))<|zi 3 [] X t_kr t_kr X X (fun hD wD τD hL hS hO  => (zo X))<|zi 4 [1, 0] X t_kr t_kr X X (fun hD wD τD hL hS hO _ _ _ _ => (zq he36 X X (hk := X) (hu := Tryz.underlying63) (hz := Tryz.sizeOf52)))<|zi 5 [0] X t_kr t_kr X X (fun hD wD τD hL hS hO _ _ => (zf (hL.sub hS) hc35 X Tryz.isAgg52 Tryz.sizeOf52 X)) ?_
   refine zS 6 (.det (strV (wordD (t) (p)))) [4, 0] rfl t_kr t_kr ?_ ?_
   ·
    intro hD wD τD hL hS hO _ _ _ _
    have st37 := St.start hS
    refine zm st37 rfl rfl rfl Tryz.call61 rfl (c_postilref01_WordAt st37.sub (t := t) (t_f0.up (((((le4.trans le10).trans le16).trans le22).trans le29).trans hL)) (p := p) (by exact hp0)) ?_
    intro r38 w39 h40 le41 st42 q43
    obtain rfl := q43
    exact E ⟨_, _, rfl, st42, (), rfl, trivial⟩
   refine zS 7 (.res (fun h' res_ => Sl LStr h' res_ ((insBy sLt ((setL sLt (((underR t x hd).take i).map (wordD t)))) ((wordD (t) (p)))))) (fun _ _ _ hl f => f.up hl)) [6, 0] rfl t_kr t_kr ?_ ?_
   ·
    intro hD wD τD hL hS hO _ _ _ _
    have st44 := St.start hS
    refine zm st44 rfl rfl rfl Tryz.call62 rfl (c_postilref04_added st44.sub (hF_10.up hL) _ zZ (by omega)) ?_
    intro r45 w46 h47 le48 st49 q50
    obtain ⟨v51, e53, f52⟩ := q50
    rw [← e53] at f52
    have f52_b := f52.le
    exact E ⟨_, _, rfl, st49, _, rfl, f52⟩
   refine zaf<|zaq X X X X X X ⟨t_kr, X, t_kr, X, t_kr, X, X, t_kr, (zY X cx_nil)⟩ ?_
   intro hE55 w56 _ le57 st58 _ _ _ _ _ _ _ _ _ _ _ _ _ _ gv7_0x54 gf7_0x54
   refine Y X X (zG (v := gv7_0x54) X) ?_
   refine E ⟨_, rfl, _, _, Le.refl _, st58, ?_⟩
   intro hE59 w60 _ le61 st62 _ _ _ _ _ _ _ _ _ _ _ _ _ _ gv7_0x63 gf7_0x63
   refine AllDeps.fin X<|zL<|M<|O<|Y X X (zo X)<|Y X X (zai X X t_om)<|Y X X (zz X)<|E<|M ?_
   refine ⟨⟨i + 1, gv7_0x54, hE59⟩, ⟨rfl, rfl, trivial⟩, ?_, ⟨((le29.trans le57).trans le61), st62, ?_, ?_⟩, ?_⟩
   ·exact zag
   ·refine Sl.to (gf7_0x54.up le61) ?_
    rw [take_snoc hp, List.map_append]; exact (setL_snoc _ _).symm
   ·first | omega | (simp; omega)
   ·show (underR t x hd).length - ((i + 1)) < (underR t x hd).length - i
    omega
  ·
   replace c32 := of_decide_eq_false c32
   refine zab<|zn<|zn<|zT<|M<|zd<|O<|Y X X (zA (v := v_10) X)<|Y X X (zG (v := v_10) X)<|Y X X (zz X)<|E<|M<|zy<|zP Tryz.results38 ?_
   refine ⟨h28, _, rfl, st30.done, ?_⟩
   refine ⟨_, tup2 rfl (zV ?_), Sl.to hF_10 ?_⟩
   ·exact hu0.symm
   ·rw [List.take_of_length_le (by omega), formsR, if_pos hu0, hur]
set_option maxRecDepth 4000 in
theorem c_postilref04_Heads {h : Heap} {w : World} (hs : Sub h w) {t : Text} {t_v0 : Value} (t_f0 : Sl LChapter h t_v0 t.chapters) {x : Lexicon} {x_v0 : Value} (x_f0 : Sl LRule h x_v0 x.rules) {x_v1 : Value} (x_f1 : Sl LDecision h x_v1 x.decisions) : Calls Tryz.prog 34 #[.agg #[t_v0], .agg #[x_v0, x_v1]] w (Rets h w (fun h' _ res_ => ∃ u0, res_ = .tuple #[u0, .int .i64 (checkN t x)] ∧ Sl LHead h' u0 ((headsN t x)))) := by
 refine zM (n := 74) (args := [.agg #[t_v0], .agg #[x_v0, x_v1]]) Tryz.func34 X X X ?_
 have st0 : St h w h w [] := St.start hs
 have t_f0_b := t_f0.le
 have x_f0_b := x_f0.le
 have x_f1_b := x_f1.le
 refine zd<|O<|zp st0 (cs := [t_v0]) X X X ?_
 intro b1 w2 h3 le4 hc5 st6
 refine zp st6 (cs := [x_v0, x_v1]) X X X ?_
 intro b7 w8 h9 le10 hc11 st12
 refine Y X X (r_asL X)<|Y X X (zz X)<|E<|M<|zd<|zd<|O<|Y X X (zf st12.sub (hc5.up le10) X Tryz.isAgg24 Tryz.sizeOf24 X)<|Y X X (zf st12.sub hc11 X Tryz.isAgg28 Tryz.sizeOf28 X)<|zm st12 X X X Tryz.call15 X (c_postilref04_Check st12.sub (t := t) (t_f0.up (le4.trans le10)) (x := x) (x_f0.up (le4.trans le10)) (x_f1.up (le4.trans le10))) ?_
 intro r13 w14 h15 le16 st17 q18
 obtain rfl := q18
 refine Y X X (zz X)<|E<|M<|zd<|O<|Y X X (zo X)<|Y X X (r_neq X X)<|E<|M ?_
 refine zr rfl (fun c19 => ?_) (fun c19 => ?_)
 ·
  replace c19 := of_decide_eq_true c19
  refine zd<|O<|Y X X (zo X)<|Y X X (r_asL X)<|Y X X (zz X)<|E<|M<|zy<|zj<|zP Tryz.results34 ?_
  refine ⟨h15, _, rfl, st17.done, ?_⟩
  refine ⟨_, tup2 rfl (zV ?_), Sl.to (Sl.nil _ _) ?_⟩
  all_goals simp_all [headsN]
 ·
  replace c19 := of_decide_eq_false c19
  refine zB<|M<|zd<|O<|Y X X (r_asL X)<|E<|M<|zd ?_
  have hx0 : checkN t x = 0 := by simpa using c19
  refine O<|Y X X (zf st17.sub (hc5.up (le10.trans le16)) X Tryz.isAgg24 Tryz.sizeOf24 X)<|Y X X (zf st17.sub (hc11.up le16) X Tryz.isAgg28 Tryz.sizeOf28 X) ?_
  refine zm st17 rfl rfl rfl Tryz.call60 rfl (c_postilref04_All st17.sub (t := t) (t_f0.up ((le4.trans le10).trans le16)) (x := x) (x_f0.up ((le4.trans le10).trans le16)) (x_f1.up ((le4.trans le10).trans le16)) (by exact hx0)) ?_
  intro r20 w21 h22 le23 st24 q25
  obtain ⟨v26, e28, f27⟩ := q25
  rw [← e28] at f27
  have f27_b := f27.le
  refine Y X X (zG (v := r20) X)<|E ?_
  have hhl : (headsL t x).length ≤ 600 := by rw [headsL, List.length_map]; exact places_len (check_text hx0)
  refine M<|zd<|zd<|O<|Y X X (zz X)<|E<|M<|zF ?_
  refine zW [7, 9, 10, 20, 21, 22, 23, 24, 25, 26, 27, 28, 29, 30, 31, 32, 33, 34, 35, 36, 37, 38, 39, 40, 41, 42, 43, 44, 45, 46, 47, 48, 49, 50, 51, 52, 53, 54, 55, 56, 57, 58, 59, 60, 61, 62, 63, 64, 65, 66, 67, 68, 69, 70, 71, 72] (G := Nat × Value × Heap) (fun ⟨i, v_7, h29⟩ => [(7, v_7), (9, .int .i64 (i : Int))]) (fun ⟨i, v_7, h29⟩ w' => Le h22 h29 ∧ St h w h29 w' [] ∧ (Sl LHead h29 v_7 ((setL headLt ((headsL t x).take i)))) ∧ (i ≤ (headsL t x).length)) (fun ⟨i, v_7, h29⟩ => (headsL t x).length - i) ⟨0, (.slice none 0 0), h22⟩ ⟨rfl, rfl, trivial⟩ ⟨Le.refl _, st24, (Sl.to (Sl.nil LHead h22) (by rfl)), zak⟩ ?_
  rintro ⟨i, v_7, h29⟩ _ w32 ⟨le30, st31, hF_7, hi⟩
  refine zd<|zd<|O<|Y X X (zo X)<|Y X X (zA (v := r20) X)<|Y X X (zae (f27.up le30) X Tryz.underlying80)<|Y X X (zam X X)<|E<|M ?_
  refine zr rfl (fun c33 => ?_) (fun c33 => ?_)
  ·
   replace c33 := of_decide_eq_true c33
   refine zB<|M<|zd<|zF<|zd ?_
   have hsl := setL_len headLt_T ((headsL t x).take i)
   rw [List.length_take] at hsl
   obtain ⟨hd, hhd⟩ : ∃ y, (headsL t x)[i]? = some y := ⟨_, List.getElem?_eq_getElem (by omega)⟩
   refine O<|Y X X (zz X)<|E<|M<|zd<|zF ?_
   refine zW [10, 26, 27, 28, 29, 30, 31, 32, 33, 34, 35, 36, 37, 38, 39, 40, 41, 42] (G := Nat × Heap) (fun ⟨k, h34⟩ => [(10, .int .i64 (k : Int))]) (fun ⟨k, h34⟩ w' => Le h29 h34 ∧ St h w h34 w' [] ∧ (k ≤ (setL headLt ((headsL t x).take i)).length) ∧ (∀ j y0, j < k → (setL headLt ((headsL t x).take i))[j]? = some y0 → headLt y0 hd = true)) (fun ⟨k, h34⟩ => (setL headLt ((headsL t x).take i)).length - k) ⟨0, h29⟩ ⟨rfl, trivial⟩ ⟨Le.refl _, st31, zak, (by intro j _ hj; omega)⟩ ?_
   rintro ⟨k, h34⟩ _ w37 ⟨le35, st36, hk, hb⟩
   refine zd<|zd<|zaj Tryz.mixed t_kr (Cls h34 _) (Cls.drew st36)<|ze X X (fun _ _ => (zo X))<|ze X X (fun _ _ => (zA (v := v_7) X))<|ze X X (fun _ _ => (zae (hF_7.up le35) X Tryz.underlying80))<|ze X X (fun _ _ => (zam X X))<|ze X X (fun _ _ => (zN X)) ?_
   refine OpsQ.split (d := 30) rfl (fun g38 => ?_) (fun g38 => ?_)
   ·
    replace g38 := of_decide_eq_true g38
    refine zx X X (d := 30) X<|ze X X (fun _ _ => (zA (v := v_7) X))<|zx X X (d := 30) X<|ze X X (fun _ _ => (zo X))<|zx X X (d := 30) X ?_
    have hy : ∃ y, ((setL headLt ((headsL t x).take i)))[k]? = some y := ⟨_, List.getElem?_eq_getElem (by omega)⟩
    obtain ⟨y, hy⟩ := hy
    obtain ⟨b39, o40, _, he42, hc41, hr_y⟩ := Sl.elem (hF_7.up le35) hy
    obtain ⟨rfl, ls43, lu44⟩ := hr_y
    simp only [big] at ls43
    refine ze X X (fun _ _ => (zq he42 X X (hk := X) (hu := Tryz.underlying80) (hz := Tryz.sizeOf54)))<|zx X X (d := 30) X<|ze X X (fun _ hC => (zf hC.sub hc41 X Tryz.isAgg54 Tryz.sizeOf54 X))<|zx X X (d := 30) X<|ze X X (fun _ _ => (zA (v := r20) X))<|zx X X (d := 30) X<|ze X X (fun _ _ => (zo X))<|zx X X (d := 30) X ?_
    obtain ⟨b45, o46, _, he48, hc47, hr_hd⟩ := Sl.elem (f27.up (le30.trans le35)) hhd
    obtain ⟨rfl, ls49, lu50⟩ := hr_hd
    simp only [big] at ls49
    refine ze X X (fun _ _ => (zq he48 X X (hk := X) (hu := Tryz.underlying80) (hz := Tryz.sizeOf54)))<|zx X X (d := 30) X<|ze X X (fun _ hC => (zf hC.sub hc47 X Tryz.isAgg54 Tryz.sizeOf54 X))<|zx X X (d := 30) X<|OpsQ.calls X X (fun _ => zah X Tryz.call78 X) (fun _ hC => Rets.quiet hC (c_postilref04_Less hC.sub (a := y) zZ t_u8 (b := hd) zZ t_u8))<|ze X X (fun _ _ => (zJ (v := (.bool _)) X X))<|zad ?_
    rintro w51 ⟨h52, s53⟩
    have st54 := st36.call0 s53
    refine M ?_
    refine zr rfl (fun c55 => ?_) (fun c55 => ?_)
    ·
     refine zB<|M<|zF<|O<|Y X X (zo X)<|Y X X (zai X X t_om)<|Y X X (zz X)<|E<|zL<|M ?_
     refine ⟨⟨k + 1, h52⟩, ⟨rfl, trivial⟩, ?_, ⟨(le35.trans s53.le), st54, ?_, ?_⟩, ?_⟩
     ·exact zag
     ·first | omega | (simp; omega)
     ·intro j y0 hj h0
      rcases Nat.lt_or_ge j k with q | q
      ·exact hb j y0 q h0
      ·obtain rfl : j = k := by omega
       rw [hy] at h0; cases h0; simpa using c55
     ·show (setL headLt ((headsL t x).take i)).length - ((k + 1)) < (setL headLt ((headsL t x).take i)).length - k
      omega
    ·
     refine zab<|zn<|zn<|zT<|M<|zd ?_
     have h2 : ∀ y0, (setL headLt ((headsL t x).take i))[k]? = some y0 → headLt y0 hd = false := by
      intro y0 h0
      first
       | (exfalso; have := (List.getElem?_eq_some_iff.1 h0).1; omega)
       | (rw [hy] at h0; cases h0; first | assumption | (simp_all [sLt]; done) | (simp_all; done))
     refine zaj Tryz.mixed t_kr (Cls h52 _) (Cls.drew st54)<|ze X X (fun _ _ => (zo X))<|ze X X (fun _ _ => (zA (v := v_7) X))<|ze X X (fun _ _ => (zae (hF_7.up (le35.trans s53.le)) X Tryz.underlying80))<|ze X X (fun _ _ => (r_eql X X))<|ze X X (fun _ _ => (zN X)) ?_
     refine OpsQ.split (d := 47) rfl (fun g56 => ?_) (fun g56 => ?_)
     ·
      replace g56 := of_decide_eq_true g56
      refine zl X X (d := 47) X X X<|zl X X (d := 47) X X X<|zl X X (d := 47) X X X<|zl X X (d := 47) X X X<|zl X X (d := 47) X X X<|zl X X (d := 47) X X X<|zl X X (d := 47) X X X<|zl X X (d := 47) X X X<|zl X X (d := 47) X X X<|ze X X (fun _ _ => (zJ (v := (.bool _)) X X))<|zad ?_
      rintro w57 ⟨h58, s59⟩
      have st60 := st54.call0 s59
      refine M ?_
      refine zr rfl (fun c61 => ?_) (fun c61 => ?_)
      ·
       have f62 := Sl.take hF_7 (k := k) (by omega)
       have f63 := Sl.drop hF_7 (k := k) (by omega)
       refine zac (er := ([], [7], [1, 11], [], 0)) (dsts := [58, 59, 60, 61, 62, 63, 64, 65, 66, 67, 68, 69, 70, 71, 72, 7]) st60 Tryz.mixed ?_
       refine zS 0 (.res (fun _ res_ => ∃ p, res_ = .slice p 0 0) (fun _ _ _ _ f => f)) [] rfl t_kr t_kr ?_ ?_
       ·
        intro hD wD τD hL hS hO 
        have st64 := St.start hS
        refine OpsL.sliceZ st64 X ⟨_, Tryz.sizeOf54⟩ Tryz.underlying80 ?_
        intro v65 w66 f67 st68
        exact E ⟨_, _, rfl, st68, _, rfl, f67⟩
       refine zi 1 [] X t_kr t_kr X X (fun hD wD τD hL hS hO  => (zA (v := v_7) X))<|zi 2 [] X t_kr t_kr X X (fun hD wD τD hL hS hO  => (zo X)) ?_
       refine zi 3 [1, 0] rfl t_kr t_kr rfl rfl (fun hD wD τD hL hS hO _ _ _ _ => (r_slice_to_sl (hF_7.up ((le35.trans s53.le).trans s59.le)) rfl rfl (hk := rfl) (by omega) Tryz.underlying80 Tryz.sizeOf54)) ?_
       refine zaf<|zi 5 [] X t_kr t_kr X X (fun hD wD τD hL hS hO  => (zA (v := r20) X))<|zi 6 [] X t_kr t_kr X X (fun hD wD τD hL hS hO  => (zo X))<|zi 7 [1, 0] X t_kr t_kr X X (fun hD wD τD hL hS hO _ _ _ _ => (zq he48 X X (hk := X) (hu := Tryz.underlying80) (hz := Tryz.sizeOf54)))<|zi 8 [0] X t_kr t_kr X X (fun hD wD τD hL hS hO _ _ => (zf (hL.sub hS) (hc47.up (s53.le.trans s59.le)) X Tryz.isAgg54 Tryz.sizeOf54 X)) ?_
       refine zS 9 (.res (fun h' res_ => Sl LHead h' res_ ([hd])) (fun _ _ _ hl f => f.up hl)) [0] rfl t_kr t_kr ?_ ?_
       ·
        intro hD wD τD hL hS hO _ _
        have st69 := St.start hS
        refine zU (L := LHead) (xs := [hd]) (cs := [strV (hd.stem), .int .u8 (hd.mark)]) st69 (Enc.cons (L := LHead) (vs := [strV (hd.stem), .int .u8 (hd.mark)]) (x := hd) (h := hD) (⟨rfl, zZ, t_u8⟩) Enc.nil) X X X Tryz.underlying80 Tryz.info54 X X X t_kr ?_
        intro v70 w71 h74 le75 f72 st73
        exact E ⟨_, _, rfl, st73, _, rfl, f72⟩
       refine zaf<|zi 11 [] X t_kr t_kr X X (fun hD wD τD hL hS hO  => (zA (v := v_7) X))<|zi 12 [] X t_kr t_kr X X (fun hD wD τD hL hS hO  => (zo X)) ?_
       refine zi 13 [1, 0] rfl t_kr t_kr rfl rfl (fun hD wD τD hL hS hO _ _ _ _ => (r_slice_from_sl (hF_7.up ((le35.trans s53.le).trans s59.le)) rfl rfl (hk := rfl) (by omega) Tryz.underlying80 Tryz.sizeOf54)) ?_
       refine zaf<|zaf<|zaq X X X X X X ⟨t_kr, X, t_kr, X, t_kr, X, X, t_kr, (zY X (zY X (zY X (zY X cx_nil))))⟩ ?_
       intro hE77 w78 _ le79 st80 gv0_x76 gf0_x76 _ _
       have st81 := st80.snoc
       have f82 := OSl.nil LHead 54 hE77
       have f83 := OSl.nil0 LHead 54 hE77 gf0_x76
       refine zQ (k := 0) (nb := 24) st81 f83 rfl (f62.up (((le35.trans s53.le).trans s59.le).trans le79)) rfl rfl rfl Tryz.underlying80 Tryz.info54 rfl rfl rfl (by decide) rfl t_len t_len ?_
       intro v84 o85 w86 _ e87 f88 st89
       subst e87
       refine E ⟨_, rfl, _, _, Le.refl _, st89, ?_⟩
       intro hE91 w92 _ le93 st94 gv9_0x90 gf9_0x90
       refine zQ (k := 0) (nb := 24) st94 (f88.up le93) rfl gf9_0x90 rfl rfl rfl Tryz.underlying80 Tryz.info54 rfl rfl rfl (by decide) rfl t_len t_len ?_
       intro v95 o96 w97 _ e98 f99 st100
       subst e98
       refine E ⟨_, rfl, _, _, Le.refl _, st100, ?_⟩
       intro hE102 w103 _ le104 st105 _ _
       refine zQ (k := 0) (nb := 24) st105 (f99.up le104) rfl (f63.up (((((le35.trans s53.le).trans s59.le).trans le79).trans le93).trans le104)) rfl rfl rfl Tryz.underlying80 Tryz.info54 rfl rfl rfl (by decide) rfl t_len t_len ?_
       intro v106 o107 w108 _ e109 f110 st111
       subst e109
       refine E ⟨_, rfl, _, _, Le.refl _, st111, ?_⟩
       intro hE113 w114 _ le115 st116 gv0_x112 gf0_x112 _ _ _ _ _ _ _ _ _ _ _ _ _ _ gv9_0x112 gf9_0x112 _ _ _ _ _ _
       refine Y X X (zG (v := v106) X) ?_
       refine E ⟨_, rfl, _, _, Le.refl _, st116, ?_⟩
       intro hE117 w118 _ le119 st120 gv0_x121 gf0_x121 _ _ _ _ _ _ _ _ _ _ _ _ _ _ gv9_0x121 gf9_0x121 _ _ _ _ _ _
       refine AllDeps.fin X<|zL<|M<|O<|Y X X (zo X)<|Y X X (zai X X t_om)<|Y X X (zz X)<|E<|M ?_
       obtain ⟨h122, le123, f124, st125⟩ := OSl.freeze (k := 0) st120 (f110.up (le115.trans le119)) rfl t_len
       refine ⟨⟨i + 1, v106, h122⟩, ⟨rfl, rfl, trivial⟩, ?_, ⟨(((((((((le30.trans le35).trans s53.le).trans s59.le).trans le79).trans le93).trans le104).trans le115).trans le119).trans le123), st125.take 0, ?_, ?_⟩, ?_⟩
       ·exact zag
       ·refine Sl.to f124 ?_
        rw [take_snoc hhd, setL_snoc]
        first | exact (insBy_old hb h2 (by simp_all)).symm | exact (insBy_new hb h2 (by first | (simp_all; done) | (intro q; have := (List.getElem?_eq_some_iff.1 q).1; omega))).symm | (rw [insBy_new hb h2 (by first | (simp_all; done) | (intro q; have := (List.getElem?_eq_some_iff.1 q).1; omega))]; simp)
       ·first | omega | (simp; omega)
       ·show (headsL t x).length - ((i + 1)) < (headsL t x).length - i
        omega
      ·
       cases c61
     ·
      replace g56 := of_decide_eq_false g56
      refine zx X X (d := 47) X<|ze X X (fun _ _ => (zA (v := v_7) X))<|zx X X (d := 47) X<|ze X X (fun _ _ => (zo X))<|zx X X (d := 47) X<|ze X X (fun _ _ => (zq he42 X X (hk := X) (hu := Tryz.underlying80) (hz := Tryz.sizeOf54)))<|zx X X (d := 47) X<|ze X X (fun _ hC => (zf hC.sub (hc41.up s53.le) X Tryz.isAgg54 Tryz.sizeOf54 X))<|zx X X (d := 47) X<|ze X X (fun _ _ => (zA (v := r20) X))<|zx X X (d := 47) X<|ze X X (fun _ _ => (zo X))<|zx X X (d := 47) X<|ze X X (fun _ _ => (zq he48 X X (hk := X) (hu := Tryz.underlying80) (hz := Tryz.sizeOf54)))<|zx X X (d := 47) X<|ze X X (fun _ hC => (zf hC.sub (hc47.up s53.le) X Tryz.isAgg54 Tryz.sizeOf54 X))<|zx X X (d := 47) X<|ze X X (fun _ _ => (r_stneq X X Tryz.eqGuardType54 (Tryz.eq_Head y hd)))<|ze X X (fun _ _ => (zw (v := (.bool _)) X X))<|zad ?_
      rintro w126 ⟨h127, s128⟩
      have st129 := st54.call0 s128
      refine M ?_
      refine zr rfl (fun c130 => ?_) (fun c130 => ?_)
      ·
       replace c130 := of_decide_eq_true c130
       have f131 := Sl.take hF_7 (k := k) (by omega)
       have f132 := Sl.drop hF_7 (k := k) (by omega)
       refine zac (er := ([], [7], [1, 11], [], 0)) (dsts := [58, 59, 60, 61, 62, 63, 64, 65, 66, 67, 68, 69, 70, 71, 72, 7]) st129 Tryz.mixed ?_
       refine zS 0 (.res (fun _ res_ => ∃ p, res_ = .slice p 0 0) (fun _ _ _ _ f => f)) [] rfl t_kr t_kr ?_ ?_
       ·
        intro hD wD τD hL hS hO 
        have st133 := St.start hS
        refine OpsL.sliceZ st133 X ⟨_, Tryz.sizeOf54⟩ Tryz.underlying80 ?_
        intro v134 w135 f136 st137
        exact E ⟨_, _, rfl, st137, _, rfl, f136⟩
       refine zi 1 [] X t_kr t_kr X X (fun hD wD τD hL hS hO  => (zA (v := v_7) X))<|zi 2 [] X t_kr t_kr X X (fun hD wD τD hL hS hO  => (zo X)) ?_
       refine zi 3 [1, 0] rfl t_kr t_kr rfl rfl (fun hD wD τD hL hS hO _ _ _ _ => (r_slice_to_sl (hF_7.up ((le35.trans s53.le).trans s128.le)) rfl rfl (hk := rfl) (by omega) Tryz.underlying80 Tryz.sizeOf54)) ?_
       refine zaf<|zi 5 [] X t_kr t_kr X X (fun hD wD τD hL hS hO  => (zA (v := r20) X))<|zi 6 [] X t_kr t_kr X X (fun hD wD τD hL hS hO  => (zo X))<|zi 7 [1, 0] X t_kr t_kr X X (fun hD wD τD hL hS hO _ _ _ _ => (zq he48 X X (hk := X) (hu := Tryz.underlying80) (hz := Tryz.sizeOf54)))<|zi 8 [0] X t_kr t_kr X X (fun hD wD τD hL hS hO _ _ => (zf (hL.sub hS) (hc47.up (s53.le.trans s128.le)) X Tryz.isAgg54 Tryz.sizeOf54 X)) ?_
       refine zS 9 (.res (fun h' res_ => Sl LHead h' res_ ([hd])) (fun _ _ _ hl f => f.up hl)) [0] rfl t_kr t_kr ?_ ?_
       ·
        intro hD wD τD hL hS hO _ _
        have st138 := St.start hS
        refine zU (L := LHead) (xs := [hd]) (cs := [strV (hd.stem), .int .u8 (hd.mark)]) st138 (Enc.cons (L := LHead) (vs := [strV (hd.stem), .int .u8 (hd.mark)]) (x := hd) (h := hD) (⟨rfl, zZ, t_u8⟩) Enc.nil) X X X Tryz.underlying80 Tryz.info54 X X X t_kr ?_
        intro v139 w140 h143 le144 f141 st142
        exact E ⟨_, _, rfl, st142, _, rfl, f141⟩
       refine zaf<|zi 11 [] X t_kr t_kr X X (fun hD wD τD hL hS hO  => (zA (v := v_7) X))<|zi 12 [] X t_kr t_kr X X (fun hD wD τD hL hS hO  => (zo X)) ?_
       refine zi 13 [1, 0] rfl t_kr t_kr rfl rfl (fun hD wD τD hL hS hO _ _ _ _ => (r_slice_from_sl (hF_7.up ((le35.trans s53.le).trans s128.le)) rfl rfl (hk := rfl) (by omega) Tryz.underlying80 Tryz.sizeOf54)) ?_
       refine zaf<|zaf<|zaq X X X X X X ⟨t_kr, X, t_kr, X, t_kr, X, X, t_kr, (zY X (zY X (zY X (zY X cx_nil))))⟩ ?_
       intro hE146 w147 _ le148 st149 gv0_x145 gf0_x145 _ _
       have st150 := st149.snoc
       have f151 := OSl.nil LHead 54 hE146
       have f152 := OSl.nil0 LHead 54 hE146 gf0_x145
       refine zQ (k := 0) (nb := 24) st150 f152 rfl (f131.up (((le35.trans s53.le).trans s128.le).trans le148)) rfl rfl rfl Tryz.underlying80 Tryz.info54 rfl rfl rfl (by decide) rfl t_len t_len ?_
       intro v153 o154 w155 _ e156 f157 st158
       subst e156
       refine E ⟨_, rfl, _, _, Le.refl _, st158, ?_⟩
       intro hE160 w161 _ le162 st163 gv9_0x159 gf9_0x159
       refine zQ (k := 0) (nb := 24) st163 (f157.up le162) rfl gf9_0x159 rfl rfl rfl Tryz.underlying80 Tryz.info54 rfl rfl rfl (by decide) rfl t_len t_len ?_
       intro v164 o165 w166 _ e167 f168 st169
       subst e167
       refine E ⟨_, rfl, _, _, Le.refl _, st169, ?_⟩
       intro hE171 w172 _ le173 st174 _ _
       refine zQ (k := 0) (nb := 24) st174 (f168.up le173) rfl (f132.up (((((le35.trans s53.le).trans s128.le).trans le148).trans le162).trans le173)) rfl rfl rfl Tryz.underlying80 Tryz.info54 rfl rfl rfl (by decide) rfl t_len t_len ?_
       intro v175 o176 w177 _ e178 f179 st180
       subst e178
       refine E ⟨_, rfl, _, _, Le.refl _, st180, ?_⟩
       intro hE182 w183 _ le184 st185 gv0_x181 gf0_x181 _ _ _ _ _ _ _ _ _ _ _ _ _ _ gv9_0x181 gf9_0x181 _ _ _ _ _ _
       refine Y X X (zG (v := v175) X) ?_
       refine E ⟨_, rfl, _, _, Le.refl _, st185, ?_⟩
       intro hE186 w187 _ le188 st189 gv0_x190 gf0_x190 _ _ _ _ _ _ _ _ _ _ _ _ _ _ gv9_0x190 gf9_0x190 _ _ _ _ _ _
       refine AllDeps.fin X<|zL<|M<|O<|Y X X (zo X)<|Y X X (zai X X t_om)<|Y X X (zz X)<|E<|M ?_
       obtain ⟨h191, le192, f193, st194⟩ := OSl.freeze (k := 0) st189 (f179.up (le184.trans le188)) rfl t_len
       refine ⟨⟨i + 1, v175, h191⟩, ⟨rfl, rfl, trivial⟩, ?_, ⟨(((((((((le30.trans le35).trans s53.le).trans s128.le).trans le148).trans le162).trans le173).trans le184).trans le188).trans le192), st194.take 0, ?_, ?_⟩, ?_⟩
       ·exact zag
       ·refine Sl.to f193 ?_
        rw [take_snoc hhd, setL_snoc]
        first | exact (insBy_old hb h2 (by simp_all)).symm | exact (insBy_new hb h2 (by first | (simp_all; done) | (intro q; have := (List.getElem?_eq_some_iff.1 q).1; omega))).symm | (rw [insBy_new hb h2 (by first | (simp_all; done) | (intro q; have := (List.getElem?_eq_some_iff.1 q).1; omega))]; simp)
       ·first | omega | (simp; omega)
       ·show (headsL t x).length - ((i + 1)) < (headsL t x).length - i
        omega
      ·
       replace c130 := of_decide_eq_false c130
       refine zB<|zL<|M<|O<|Y X X (zo X)<|Y X X (zai X X t_om)<|Y X X (zz X)<|E<|M ?_
       refine ⟨⟨i + 1, v_7, h127⟩, ⟨rfl, rfl, trivial⟩, ?_, ⟨(((le30.trans le35).trans s53.le).trans s128.le), st129, ?_, ?_⟩, ?_⟩
       ·exact zag
       ·refine Sl.to (hF_7.up ((le35.trans s53.le).trans s128.le)) ?_
        rw [take_snoc hhd, setL_snoc]
        first | exact (insBy_old hb h2 (by simp_all)).symm | exact (insBy_new hb h2 (by first | (simp_all; done) | (intro q; have := (List.getElem?_eq_some_iff.1 q).1; omega))).symm | (rw [insBy_new hb h2 (by first | (simp_all; done) | (intro q; have := (List.getElem?_eq_some_iff.1 q).1; omega))]; simp)
       ·first | omega | (simp; omega)
       ·show (headsL t x).length - ((i + 1)) < (headsL t x).length - i
        omega
   ·
    replace g38 := of_decide_eq_false g38
    refine zl X X (d := 30) X X X<|zl X X (d := 30) X X X<|zl X X (d := 30) X X X<|zl X X (d := 30) X X X<|zl X X (d := 30) X X X<|zl X X (d := 30) X X X<|zl X X (d := 30) X X X<|zl X X (d := 30) X X X<|zl X X (d := 30) X X X<|ze X X (fun _ _ => (zw (v := (.bool _)) X X))<|zad ?_
    rintro w195 ⟨h196, s197⟩
    have st198 := st36.call0 s197
    refine M ?_
    refine zr rfl (fun c199 => ?_) (fun c199 => ?_)
    ·
     cases c199
    ·
     refine zab<|zn<|zn<|zT<|M<|zd ?_
     have h2 : ∀ y0, (setL headLt ((headsL t x).take i))[k]? = some y0 → headLt y0 hd = false := by
      intro y0 h0
      first
       | (exfalso; have := (List.getElem?_eq_some_iff.1 h0).1; omega)
       | (rw [hy] at h0; cases h0; first | assumption | (simp_all [sLt]; done) | (simp_all; done))
     refine zaj Tryz.mixed t_kr (Cls h196 _) (Cls.drew st198)<|ze X X (fun _ _ => (zo X))<|ze X X (fun _ _ => (zA (v := v_7) X))<|ze X X (fun _ _ => (zae (hF_7.up (le35.trans s197.le)) X Tryz.underlying80))<|ze X X (fun _ _ => (r_eql X X))<|ze X X (fun _ _ => (zN X)) ?_
     refine OpsQ.split (d := 47) rfl (fun g200 => ?_) (fun g200 => ?_)
     ·
      replace g200 := of_decide_eq_true g200
      refine zl X X (d := 47) X X X<|zl X X (d := 47) X X X<|zl X X (d := 47) X X X<|zl X X (d := 47) X X X<|zl X X (d := 47) X X X<|zl X X (d := 47) X X X<|zl X X (d := 47) X X X<|zl X X (d := 47) X X X<|zl X X (d := 47) X X X<|ze X X (fun _ _ => (zJ (v := (.bool _)) X X))<|zad ?_
      rintro w201 ⟨h202, s203⟩
      have st204 := st198.call0 s203
      refine M ?_
      refine zr rfl (fun c205 => ?_) (fun c205 => ?_)
      ·
       have f206 := Sl.take hF_7 (k := k) (by omega)
       obtain ⟨b207, o208, _, he210, hc209, hr_hd⟩ := Sl.elem (f27.up (((le30.trans le35).trans s197.le).trans s203.le)) hhd
       obtain ⟨rfl, ls211, lu212⟩ := hr_hd
       simp only [big] at ls211
       have f213 := Sl.drop hF_7 (k := k) (by omega)
       refine zac (er := ([], [7], [1, 11], [], 0)) (dsts := [58, 59, 60, 61, 62, 63, 64, 65, 66, 67, 68, 69, 70, 71, 72, 7]) st204 Tryz.mixed ?_
       refine zS 0 (.res (fun _ res_ => ∃ p, res_ = .slice p 0 0) (fun _ _ _ _ f => f)) [] rfl t_kr t_kr ?_ ?_
       ·
        intro hD wD τD hL hS hO 
        have st214 := St.start hS
        refine OpsL.sliceZ st214 X ⟨_, Tryz.sizeOf54⟩ Tryz.underlying80 ?_
        intro v215 w216 f217 st218
        exact E ⟨_, _, rfl, st218, _, rfl, f217⟩
       refine zi 1 [] X t_kr t_kr X X (fun hD wD τD hL hS hO  => (zA (v := v_7) X))<|zi 2 [] X t_kr t_kr X X (fun hD wD τD hL hS hO  => (zo X)) ?_
       refine zi 3 [1, 0] rfl t_kr t_kr rfl rfl (fun hD wD τD hL hS hO _ _ _ _ => (r_slice_to_sl (hF_7.up ((le35.trans s197.le).trans s203.le)) rfl rfl (hk := rfl) (by omega) Tryz.underlying80 Tryz.sizeOf54)) ?_
       refine zaf<|zi 5 [] X t_kr t_kr X X (fun hD wD τD hL hS hO  => (zA (v := r20) X))<|zi 6 [] X t_kr t_kr X X (fun hD wD τD hL hS hO  => (zo X))<|zi 7 [1, 0] X t_kr t_kr X X (fun hD wD τD hL hS hO _ _ _ _ => (zq he210 X X (hk := X) (hu := Tryz.underlying80) (hz := Tryz.sizeOf54)))<|zi 8 [0] X t_kr t_kr X X (fun hD wD τD hL hS hO _ _ => (zf (hL.sub hS) hc209 X Tryz.isAgg54 Tryz.sizeOf54 X)) ?_
       refine zS 9 (.res (fun h' res_ => Sl LHead h' res_ ([hd])) (fun _ _ _ hl f => f.up hl)) [0] rfl t_kr t_kr ?_ ?_
       ·
        intro hD wD τD hL hS hO _ _
        have st219 := St.start hS
        refine zU (L := LHead) (xs := [hd]) (cs := [strV (hd.stem), .int .u8 (hd.mark)]) st219 (Enc.cons (L := LHead) (vs := [strV (hd.stem), .int .u8 (hd.mark)]) (x := hd) (h := hD) (⟨rfl, zZ, t_u8⟩) Enc.nil) X X X Tryz.underlying80 Tryz.info54 X X X t_kr ?_
        intro v220 w221 h224 le225 f222 st223
        exact E ⟨_, _, rfl, st223, _, rfl, f222⟩
       refine zaf<|zi 11 [] X t_kr t_kr X X (fun hD wD τD hL hS hO  => (zA (v := v_7) X))<|zi 12 [] X t_kr t_kr X X (fun hD wD τD hL hS hO  => (zo X)) ?_
       refine zi 13 [1, 0] rfl t_kr t_kr rfl rfl (fun hD wD τD hL hS hO _ _ _ _ => (r_slice_from_sl (hF_7.up ((le35.trans s197.le).trans s203.le)) rfl rfl (hk := rfl) (by omega) Tryz.underlying80 Tryz.sizeOf54)) ?_
       refine zaf<|zaf<|zaq X X X X X X ⟨t_kr, X, t_kr, X, t_kr, X, X, t_kr, (zY X (zY X (zY X (zY X cx_nil))))⟩ ?_
       intro hE227 w228 _ le229 st230 gv0_x226 gf0_x226 _ _
       have st231 := st230.snoc
       have f232 := OSl.nil LHead 54 hE227
       have f233 := OSl.nil0 LHead 54 hE227 gf0_x226
       refine zQ (k := 0) (nb := 24) st231 f233 rfl (f206.up (((le35.trans s197.le).trans s203.le).trans le229)) rfl rfl rfl Tryz.underlying80 Tryz.info54 rfl rfl rfl (by decide) rfl t_len t_len ?_
       intro v234 o235 w236 _ e237 f238 st239
       subst e237
       refine E ⟨_, rfl, _, _, Le.refl _, st239, ?_⟩
       intro hE241 w242 _ le243 st244 gv9_0x240 gf9_0x240
       refine zQ (k := 0) (nb := 24) st244 (f238.up le243) rfl gf9_0x240 rfl rfl rfl Tryz.underlying80 Tryz.info54 rfl rfl rfl (by decide) rfl t_len t_len ?_
       intro v245 o246 w247 _ e248 f249 st250
       subst e248
       refine E ⟨_, rfl, _, _, Le.refl _, st250, ?_⟩
       intro hE252 w253 _ le254 st255 _ _
       refine zQ (k := 0) (nb := 24) st255 (f249.up le254) rfl (f213.up (((((le35.trans s197.le).trans s203.le).trans le229).trans le243).trans le254)) rfl rfl rfl Tryz.underlying80 Tryz.info54 rfl rfl rfl (by decide) rfl t_len t_len ?_
       intro v256 o257 w258 _ e259 f260 st261
       subst e259
       refine E ⟨_, rfl, _, _, Le.refl _, st261, ?_⟩
       intro hE263 w264 _ le265 st266 gv0_x262 gf0_x262 _ _ _ _ _ _ _ _ _ _ _ _ _ _ gv9_0x262 gf9_0x262 _ _ _ _ _ _
       refine Y X X (zG (v := v256) X) ?_
       refine E ⟨_, rfl, _, _, Le.refl _, st266, ?_⟩
       intro hE267 w268 _ le269 st270 gv0_x271 gf0_x271 _ _ _ _ _ _ _ _ _ _ _ _ _ _ gv9_0x271 gf9_0x271 _ _ _ _ _ _
       refine AllDeps.fin X<|zL<|M<|O<|Y X X (zo X)<|Y X X (zai X X t_om)<|Y X X (zz X)<|E<|M ?_
       obtain ⟨h272, le273, f274, st275⟩ := OSl.freeze (k := 0) st270 (f260.up (le265.trans le269)) rfl t_len
       refine ⟨⟨i + 1, v256, h272⟩, ⟨rfl, rfl, trivial⟩, ?_, ⟨(((((((((le30.trans le35).trans s197.le).trans s203.le).trans le229).trans le243).trans le254).trans le265).trans le269).trans le273), st275.take 0, ?_, ?_⟩, ?_⟩
       ·exact zag
       ·refine Sl.to f274 ?_
        rw [take_snoc hhd, setL_snoc]
        first | exact (insBy_old hb h2 (by simp_all)).symm | exact (insBy_new hb h2 (by first | (simp_all; done) | (intro q; have := (List.getElem?_eq_some_iff.1 q).1; omega))).symm | (rw [insBy_new hb h2 (by first | (simp_all; done) | (intro q; have := (List.getElem?_eq_some_iff.1 q).1; omega))]; simp)
       ·first | omega | (simp; omega)
       ·show (headsL t x).length - ((i + 1)) < (headsL t x).length - i
        omega
      ·
       cases c205
     ·
      replace g200 := of_decide_eq_false g200
      refine zx X X (d := 47) X<|ze X X (fun _ _ => (zA (v := v_7) X))<|zx X X (d := 47) X<|ze X X (fun _ _ => (zo X))<|zx X X (d := 47) X ?_
      have hy : ∃ y, ((setL headLt ((headsL t x).take i)))[k]? = some y := ⟨_, List.getElem?_eq_getElem (by omega)⟩
      obtain ⟨y, hy⟩ := hy
      obtain ⟨b276, o277, _, he279, hc278, hr_y⟩ := Sl.elem (hF_7.up (le35.trans s197.le)) hy
      obtain ⟨rfl, ls280, lu281⟩ := hr_y
      simp only [big] at ls280
      refine ze X X (fun _ _ => (zq he279 X X (hk := X) (hu := Tryz.underlying80) (hz := Tryz.sizeOf54)))<|zx X X (d := 47) X<|ze X X (fun _ hC => (zf hC.sub hc278 X Tryz.isAgg54 Tryz.sizeOf54 X))<|zx X X (d := 47) X<|ze X X (fun _ _ => (zA (v := r20) X))<|zx X X (d := 47) X<|ze X X (fun _ _ => (zo X))<|zx X X (d := 47) X ?_
      obtain ⟨b282, o283, _, he285, hc284, hr_hd⟩ := Sl.elem (f27.up ((le30.trans le35).trans s197.le)) hhd
      obtain ⟨rfl, ls286, lu287⟩ := hr_hd
      simp only [big] at ls286
      refine ze X X (fun _ _ => (zq he285 X X (hk := X) (hu := Tryz.underlying80) (hz := Tryz.sizeOf54)))<|zx X X (d := 47) X<|ze X X (fun _ hC => (zf hC.sub hc284 X Tryz.isAgg54 Tryz.sizeOf54 X))<|zx X X (d := 47) X<|ze X X (fun _ _ => (r_stneq X X Tryz.eqGuardType54 (Tryz.eq_Head y hd)))<|ze X X (fun _ _ => (zw (v := (.bool _)) X X))<|zad ?_
      rintro w288 ⟨h289, s290⟩
      have st291 := st198.call0 s290
      refine M ?_
      refine zr rfl (fun c292 => ?_) (fun c292 => ?_)
      ·
       replace c292 := of_decide_eq_true c292
       have f293 := Sl.take hF_7 (k := k) (by omega)
       have f294 := Sl.drop hF_7 (k := k) (by omega)
       refine zac (er := ([], [7], [1, 11], [], 0)) (dsts := [58, 59, 60, 61, 62, 63, 64, 65, 66, 67, 68, 69, 70, 71, 72, 7]) st291 Tryz.mixed ?_
       refine zS 0 (.res (fun _ res_ => ∃ p, res_ = .slice p 0 0) (fun _ _ _ _ f => f)) [] rfl t_kr t_kr ?_ ?_
       ·
        intro hD wD τD hL hS hO 
        have st295 := St.start hS
        refine OpsL.sliceZ st295 X ⟨_, Tryz.sizeOf54⟩ Tryz.underlying80 ?_
        intro v296 w297 f298 st299
        exact E ⟨_, _, rfl, st299, _, rfl, f298⟩
       refine zi 1 [] X t_kr t_kr X X (fun hD wD τD hL hS hO  => (zA (v := v_7) X))<|zi 2 [] X t_kr t_kr X X (fun hD wD τD hL hS hO  => (zo X)) ?_
       refine zi 3 [1, 0] rfl t_kr t_kr rfl rfl (fun hD wD τD hL hS hO _ _ _ _ => (r_slice_to_sl (hF_7.up ((le35.trans s197.le).trans s290.le)) rfl rfl (hk := rfl) (by omega) Tryz.underlying80 Tryz.sizeOf54)) ?_
       refine zaf<|zi 5 [] X t_kr t_kr X X (fun hD wD τD hL hS hO  => (zA (v := r20) X))<|zi 6 [] X t_kr t_kr X X (fun hD wD τD hL hS hO  => (zo X))<|zi 7 [1, 0] X t_kr t_kr X X (fun hD wD τD hL hS hO _ _ _ _ => (zq he285 X X (hk := X) (hu := Tryz.underlying80) (hz := Tryz.sizeOf54)))<|zi 8 [0] X t_kr t_kr X X (fun hD wD τD hL hS hO _ _ => (zf (hL.sub hS) (hc284.up s290.le) X Tryz.isAgg54 Tryz.sizeOf54 X)) ?_
       refine zS 9 (.res (fun h' res_ => Sl LHead h' res_ ([hd])) (fun _ _ _ hl f => f.up hl)) [0] rfl t_kr t_kr ?_ ?_
       ·
        intro hD wD τD hL hS hO _ _
        have st300 := St.start hS
        refine zU (L := LHead) (xs := [hd]) (cs := [strV (hd.stem), .int .u8 (hd.mark)]) st300 (Enc.cons (L := LHead) (vs := [strV (hd.stem), .int .u8 (hd.mark)]) (x := hd) (h := hD) (⟨rfl, zZ, t_u8⟩) Enc.nil) X X X Tryz.underlying80 Tryz.info54 X X X t_kr ?_
        intro v301 w302 h305 le306 f303 st304
        exact E ⟨_, _, rfl, st304, _, rfl, f303⟩
       refine zaf<|zi 11 [] X t_kr t_kr X X (fun hD wD τD hL hS hO  => (zA (v := v_7) X))<|zi 12 [] X t_kr t_kr X X (fun hD wD τD hL hS hO  => (zo X)) ?_
       refine zi 13 [1, 0] rfl t_kr t_kr rfl rfl (fun hD wD τD hL hS hO _ _ _ _ => (r_slice_from_sl (hF_7.up ((le35.trans s197.le).trans s290.le)) rfl rfl (hk := rfl) (by omega) Tryz.underlying80 Tryz.sizeOf54)) ?_
       refine zaf<|zaf<|zaq X X X X X X ⟨t_kr, X, t_kr, X, t_kr, X, X, t_kr, (zY X (zY X (zY X (zY X cx_nil))))⟩ ?_
       intro hE308 w309 _ le310 st311 gv0_x307 gf0_x307 _ _
       have st312 := st311.snoc
       have f313 := OSl.nil LHead 54 hE308
       have f314 := OSl.nil0 LHead 54 hE308 gf0_x307
       refine zQ (k := 0) (nb := 24) st312 f314 rfl (f293.up (((le35.trans s197.le).trans s290.le).trans le310)) rfl rfl rfl Tryz.underlying80 Tryz.info54 rfl rfl rfl (by decide) rfl t_len t_len ?_
       intro v315 o316 w317 _ e318 f319 st320
       subst e318
       refine E ⟨_, rfl, _, _, Le.refl _, st320, ?_⟩
       intro hE322 w323 _ le324 st325 gv9_0x321 gf9_0x321
       refine zQ (k := 0) (nb := 24) st325 (f319.up le324) rfl gf9_0x321 rfl rfl rfl Tryz.underlying80 Tryz.info54 rfl rfl rfl (by decide) rfl t_len t_len ?_
       intro v326 o327 w328 _ e329 f330 st331
       subst e329
       refine E ⟨_, rfl, _, _, Le.refl _, st331, ?_⟩
       intro hE333 w334 _ le335 st336 _ _
       refine zQ (k := 0) (nb := 24) st336 (f330.up le335) rfl (f294.up (((((le35.trans s197.le).trans s290.le).trans le310).trans le324).trans le335)) rfl rfl rfl Tryz.underlying80 Tryz.info54 rfl rfl rfl (by decide) rfl t_len t_len ?_
       intro v337 o338 w339 _ e340 f341 st342
       subst e340
       refine E ⟨_, rfl, _, _, Le.refl _, st342, ?_⟩
       intro hE344 w345 _ le346 st347 gv0_x343 gf0_x343 _ _ _ _ _ _ _ _ _ _ _ _ _ _ gv9_0x343 gf9_0x343 _ _ _ _ _ _
       refine Y X X (zG (v := v337) X) ?_
       refine E ⟨_, rfl, _, _, Le.refl _, st347, ?_⟩
       intro hE348 w349 _ le350 st351 gv0_x352 gf0_x352 _ _ _ _ _ _ _ _ _ _ _ _ _ _ gv9_0x352 gf9_0x352 _ _ _ _ _ _
       refine AllDeps.fin X<|zL<|M<|O<|Y X X (zo X)<|Y X X (zai X X t_om)<|Y X X (zz X)<|E<|M ?_
       obtain ⟨h353, le354, f355, st356⟩ := OSl.freeze (k := 0) st351 (f341.up (le346.trans le350)) rfl t_len
       refine ⟨⟨i + 1, v337, h353⟩, ⟨rfl, rfl, trivial⟩, ?_, ⟨(((((((((le30.trans le35).trans s197.le).trans s290.le).trans le310).trans le324).trans le335).trans le346).trans le350).trans le354), st356.take 0, ?_, ?_⟩, ?_⟩
       ·exact zag
       ·refine Sl.to f355 ?_
        rw [take_snoc hhd, setL_snoc]
        first | exact (insBy_old hb h2 (by simp_all)).symm | exact (insBy_new hb h2 (by first | (simp_all; done) | (intro q; have := (List.getElem?_eq_some_iff.1 q).1; omega))).symm | (rw [insBy_new hb h2 (by first | (simp_all; done) | (intro q; have := (List.getElem?_eq_some_iff.1 q).1; omega))]; simp)
       ·first | omega | (simp; omega)
       ·show (headsL t x).length - ((i + 1)) < (headsL t x).length - i
        omega
      ·
       replace c292 := of_decide_eq_false c292
       refine zB<|zL<|M<|O<|Y X X (zo X)<|Y X X (zai X X t_om)<|Y X X (zz X)<|E<|M ?_
       refine ⟨⟨i + 1, v_7, h289⟩, ⟨rfl, rfl, trivial⟩, ?_, ⟨(((le30.trans le35).trans s197.le).trans s290.le), st291, ?_, ?_⟩, ?_⟩
       ·exact zag
       ·refine Sl.to (hF_7.up ((le35.trans s197.le).trans s290.le)) ?_
        rw [take_snoc hhd, setL_snoc]
        first | exact (insBy_old hb h2 (by simp_all)).symm | exact (insBy_new hb h2 (by first | (simp_all; done) | (intro q; have := (List.getElem?_eq_some_iff.1 q).1; omega))).symm | (rw [insBy_new hb h2 (by first | (simp_all; done) | (intro q; have := (List.getElem?_eq_some_iff.1 q).1; omega))]; simp)
       ·first | omega | (simp; omega)
       ·show (headsL t x).length - ((i + 1)) < (headsL t x).length - i
        omega
  ·
   replace c33 := of_decide_eq_false c33
   refine zab<|zn<|zn<|zT<|M<|zd<|O<|Y X X (zA (v := v_7) X)<|Y X X (zG (v := v_7) X)<|Y X X (zz X)<|E<|M<|zy<|zP Tryz.results34 ?_
   refine ⟨h29, _, rfl, st31.done, ?_⟩
   refine ⟨_, tup2 rfl (zV ?_), Sl.to hF_7 ?_⟩
   ·exact hx0.symm
   ·rw [List.take_of_length_le (by omega)]; simp [headsN, hx0]
end Go.Pk

namespace Go.Pk
open Go Go.RowKit Go.Proofs
theorem c_strings_Compare {h : Heap} {w : World} (hs : Sub h w) (a : Str) (a_le : a.length ≤ 281474976710656) (b : Str) (b_le : b.length ≤ 281474976710656) : Calls Tryz.prog 76 #[strV a, strV b] w (Rets h w (fun _ _ res_ => res_ = .int .i64 (cmpS a b))) := by
 refine (Tryz.strings_Compare ⟨a.toArray⟩ ⟨b.toArray⟩ w).mono ?_
 rintro e w' ⟨rfl, rfl⟩
 exact ⟨h, _, rfl, St.start hs, rfl⟩
set_option maxRecDepth 4000 in
theorem c_stem_Heads_1 {h : Heap} {w : World} (hs : Sub h w) {a : Head} (a_l1 : a.stem.length ≤ 281474976710656) (a_l2 : 0 ≤ a.mark ∧ a.mark ≤ 255) {b : Head} (b_l1 : b.stem.length ≤ 281474976710656) (b_l2 : 0 ≤ b.mark ∧ b.mark ≤ 255) : Calls Tryz.prog 75 #[.agg #[strV a.stem, .int .u8 a.mark], .agg #[strV b.stem, .int .u8 b.mark]] w (Rets h w (fun _ _ res_ => res_ = .int .i64 ((cmpHead a b)))) := by
 refine zM (n := 21) (args := [.agg #[strV a.stem, .int .u8 a.mark], .agg #[strV b.stem, .int .u8 b.mark]]) Tryz.func75 X X X ?_
 have st0 : St h w h w [] := St.start hs
 refine zd<|O<|zp st0 (cs := [strV (a.stem), .int .u8 (a.mark)]) X X X ?_
 intro b1 w2 h3 le4 hc5 st6
 refine zp st6 (cs := [strV (b.stem), .int .u8 (b.mark)]) X X X ?_
 intro b7 w8 h9 le10 hc11 st12
 refine Y X X (zz X)<|E<|M<|zd<|zd<|O<|Y X X (zc X Tryz.underlying54 X Tryz.sizeOf9 X)<|Y X X (zb (j := 0) st12.sub (hc5.up le10) X X X Tryz.isAgg9)<|Y X X (zc X Tryz.underlying54 X Tryz.sizeOf9 X)<|Y X X (zb (j := 0) st12.sub hc11 X X X Tryz.isAgg9)<|zm st12 X X X Tryz.call76 X (c_strings_Compare st12.sub _ zZ _ zZ) ?_
 intro r13 w14 h15 le16 st17 q18
 obtain rfl := q18
 have hcb := cmpS_bound a.stem b.stem
 refine Y X X (zz X)<|E<|M<|zd<|O<|Y X X (zo X)<|Y X X (r_neq X X)<|E<|M ?_
 refine zr rfl (fun c19 => ?_) (fun c19 => ?_)
 ·
  replace c19 := of_decide_eq_true c19
  refine zd<|O<|Y X X (zo X)<|Y X X (zz X)<|E<|M<|zy<|zj<|zh Tryz.results75 ?_
  refine ⟨h15, _, rfl, st17.done, ?_⟩
  refine zV ?_
  simp_all [cmpHead]
 ·
  replace c19 := of_decide_eq_false c19
  refine zB<|M<|zd<|O<|Y X X (zc X Tryz.underlying54 X Tryz.sizeOf5 X)<|Y X X (zb (j := 1) st17.sub (hc5.up (le10.trans le16)) X X X Tryz.isAgg5) ?_
  refine Y rfl rfl (r_conv_int rfl rfl Tryz.underlying3 (IntWalk.i64_in _ (by omega))) ?_
  refine Y X X (zc X Tryz.underlying54 X Tryz.sizeOf5 X)<|Y X X (zb (j := 1) st17.sub (hc11.up le16) X X X Tryz.isAgg5) ?_
  refine Y rfl rfl (r_conv_int rfl rfl Tryz.underlying3 (IntWalk.i64_in _ (by omega))) ?_
  refine Y X X (r_sub X X t_om)<|Y X X (zz X)<|E<|M<|zy<|zh Tryz.results75 ?_
  refine ⟨h15, _, rfl, st17.done, ?_⟩
  refine zV ?_
  simp_all [cmpHead]
set_option maxRecDepth 4000 in
theorem c_stem_office_entries_own {h : Heap} {w : World} (hs : Sub h w) {o_b : Nat} {o : Office} {o_v0 : Value} (o_f0 : Sl LRule h o_v0 o.lex.rules) {o_v1 : Value} (o_f1 : Sl LDecision h o_v1 o.lex.decisions) {o_v2 : Value} (o_f2 : Sl LChapter h o_v2 o.text.chapters) {o_v3 : Value} (o_f3 : FML (fun n : Int => .int .i64 n) (fun x : Decision => [.int .i64 x.number, .int .u8 x.kind, strV x.form, .int .i64 x.at_.chapter, .int .i64 x.at_.line, .int .i64 x.at_.word, strV x.to.stem, .int .u8 x.to.mark, .int .i64 x.of_]) LDecision h o.stands o_v3) (o_c : Cells h o_b 0 [o_v0, o_v1, o_v2, o_v3]) (K0 : Cells h 0 0 Tryz.glob0) (ho : OkO o) : Calls Tryz.prog 56 #[.pointer (some ⟨o_b, 0, none⟩)] w (fun e_ w' => ∃ h' res_ o_, e_ = .returned res_ ∧ Le h h' ∧ St h w h' w' [o_] ∧ OSl LEntry 120 h' res_ ((entriesL o.text o.lex)) o_) := by
 refine zM (n := 55) (args := [.pointer (some ⟨o_b, 0, none⟩)]) Tryz.func56 X X X ?_
 have st0 : St h w h w [] := St.start hs
 have o_f0_b := o_f0.le
 have o_f1_b := o_f1.le
 have o_f2_b := o_f2.le
 have ht := check_text ho.1
 have hchl := chapters_len ht
 refine zd<|O<|Y X X (r_asL X)<|E<|M<|zd<|O<|Y X X (r_asL X)<|E<|M<|zd<|zd<|O<|Y X X (r_mvP X)<|Y X X (r_nil_check X)<|Y X X (zc X Tryz.underlying103 X Tryz.sizeOf24 X)<|Y X X (zc X Tryz.underlying24 X Tryz.sizeOf22 X)<|Y X X (zb (j := 2) st0.sub o_c X X X Tryz.isAgg22)<|Y X X (zae o_f2 X Tryz.underlying22)<|Y X X (zo X)<|E<|M<|zF ?_
 have st4 := st0.snoc
 have f5 := OSl.nil LEntry 120 h
 refine zW [3, 4, 5, 6, 7, 8, 9, 16, 17, 18, 19, 20, 21, 22, 23, 24, 25, 26, 27, 28, 29, 30, 31, 32, 33, 34, 35, 36, 37, 38, 39, 40, 41, 42, 43, 44, 45, 46, 47, 48, 49, 50, 51, 52, 53] (G := Nat × Value × List (Nat × Obj) × Heap) (fun ⟨i, v_3, o_3, h1⟩ => [(3, v_3), (16, .int .i64 (i : Int))]) (fun ⟨i, v_3, o_3, h1⟩ w' => Le h h1 ∧ St h w h1 w' [o_3] ∧ (OSl LEntry 120 h1 v_3 (((List.range i).flatMap (chapP o.text)).map (entryAt o.text o.lex)) o_3) ∧ (i ≤ o.text.chapters.length)) (fun ⟨i, v_3, o_3, h1⟩ => o.text.chapters.length - i) ⟨0, (.slice none 0 0), [], h⟩ ⟨rfl, rfl, trivial⟩ ⟨Le.refl _, st4, (OSl.to f5 (by rfl)), zak⟩ ?_
 rintro ⟨i, v_3, o_3, h1⟩ _ w6 ⟨le2, st3, hO_3, hi⟩
 refine zd<|O<|Y X X (zam X X)<|E<|M<|zd ?_
 refine zr rfl (fun c7 => ?_) (fun c7 => ?_)
 ·
  replace c7 := of_decide_eq_true c7
  refine zB<|M<|zd<|zF<|zd<|O<|Y X X (zo X) ?_
  have hc : ∃ y, (o.text.chapters)[i]? = some y := ⟨_, List.getElem?_eq_getElem (by omega)⟩
  obtain ⟨c, hc⟩ := hc
  obtain ⟨b8, o9, _, he11, hc10, hr_c⟩ := Sl.elem (o_f2.up le2) hc
  obtain ⟨v12, rfl, f13⟩ := hr_c
  have f13_b := f13.le
  refine Y X X (zq he11 X X (hk := X) (hu := Tryz.underlying22) (hz := Tryz.sizeOf93))<|Y X X (zf st3.sub hc10 X Tryz.isAgg93 Tryz.sizeOf93 X)<|zR st3 Tryz.zeroValue93 X X ?_
  intro b14 w15 st16
  refine Y X X (zz X)<|zI st16 (k := 1) X X X (zg X (zg f13.one zX)) Tryz.sizeOf93 X X X ?_
  intro w17 st18
  obtain ⟨h19, le20, hb21, st23⟩ := st18.freeze (k := 1) rfl
  have hc22 := Cells.of hb21
  refine E ?_
  have q5 := linesAt_len ht i
  rw [linesAt_some hc] at q5
  refine M<|zd<|O<|Y X X (zc X Tryz.underlying93 X Tryz.sizeOf91 X)<|Y X X (zb (j := 1) st23.sub hc22 X X X Tryz.isAgg91)<|Y X X (zae (f13.up le20) X Tryz.underlying91)<|Y X X (zo X)<|E<|M<|zF ?_
  refine zW [3, 6, 7, 8, 9, 24, 25, 26, 27, 28, 29, 30, 31, 32, 33, 34, 35, 36, 37, 38, 39, 40, 41, 42, 43, 44, 45, 46, 47, 48, 49, 50, 51, 52] (G := Nat × Value × List (Nat × Obj) × Heap) (fun ⟨n, v_3, o_3, h24⟩ => [(3, v_3), (24, .int .i64 (n : Int))]) (fun ⟨n, v_3, o_3, h24⟩ w' => Le h19 h24 ∧ St h w h24 w' [o_3, []] ∧ (OSl LEntry 120 h24 v_3 (((List.range i).flatMap (chapP o.text) ++ (List.range n).flatMap (lineP o.text i)).map (entryAt o.text o.lex)) o_3) ∧ (n ≤ c.lines.length)) (fun ⟨n, v_3, o_3, h24⟩ => c.lines.length - n) ⟨0, v_3, o_3, h19⟩ ⟨rfl, rfl, trivial⟩ ⟨Le.refl _, st23, (OSl.to (hO_3.up le20) (by simp)), zak⟩ ?_
  rintro ⟨n, v_3, o_3, h24⟩ _ w27 ⟨le25, st26, hO_3, hn⟩
  refine zd<|O<|Y X X (zam X X)<|E<|M<|zd ?_
  refine zr rfl (fun c28 => ?_) (fun c28 => ?_)
  ·
   replace c28 := of_decide_eq_true c28
   refine zB<|M<|zd<|zF<|zd<|O<|Y X X (zo X) ?_
   have hln : ∃ y, (c.lines)[n]? = some y := ⟨_, List.getElem?_eq_getElem (by omega)⟩
   obtain ⟨ln, hln⟩ := hln
   obtain ⟨b29, o30, _, he32, hc31, hr_ln⟩ := Sl.elem (f13.up (le20.trans le25)) hln
   obtain ⟨v33, rfl, f34⟩ := hr_ln
   have f34_b := f34.le
   refine Y X X (zq he32 X X (hk := X) (hu := Tryz.underlying91) (hz := Tryz.sizeOf33))<|Y X X (zb (j := 0) st26.sub hc31 X X X Tryz.isAgg33)<|Y X X (zz X)<|Y X X (zG (v := v33) X)<|E ?_
   have q4 := wordsAt_len ht i n
   rw [wordsAt_some hc hln] at q4
   refine M<|zd<|O<|Y X X (zA (v := v33) X)<|Y X X (zae f34 X Tryz.underlying33)<|Y X X (zo X)<|E<|M<|zF ?_
   refine zW [3, 8, 9, 31, 32, 33, 34, 35, 36, 37, 38, 39, 40, 41, 42, 43, 44, 45, 46, 47, 48, 49, 50, 51] (G := Nat × Value × List (Nat × Obj) × Heap) (fun ⟨m, v_3, o_3, h35⟩ => [(3, v_3), (31, .int .i64 (m : Int))]) (fun ⟨m, v_3, o_3, h35⟩ w' => Le h24 h35 ∧ St h w h35 w' [o_3, []] ∧ (OSl LEntry 120 h35 v_3 (((List.range i).flatMap (chapP o.text) ++ (List.range n).flatMap (lineP o.text i) ++ (List.range m).map (mkP i n)).map (entryAt o.text o.lex)) o_3) ∧ (m ≤ ln.length)) (fun ⟨m, v_3, o_3, h35⟩ => ln.length - m) ⟨0, v_3, o_3, h24⟩ ⟨rfl, rfl, trivial⟩ ⟨Le.refl _, st26, (OSl.to hO_3 (by simp)), zak⟩ ?_
   rintro ⟨m, v_3, o_3, h35⟩ _ w38 ⟨le36, st37, hO_3, hm⟩
   refine zd<|O<|Y X X (zam X X)<|E<|M<|zd ?_
   refine zr rfl (fun c39 => ?_) (fun c39 => ?_)
   ·
    replace c39 := of_decide_eq_true c39
    refine zB<|M<|zd<|zF<|zd<|O<|Y X X (zo X)<|Y X X (zz X)<|E<|M<|zd<|O<|Y X X (zo X)<|Y X X (zo X)<|Y X X (zo X)<|Y X X (r_build (cs := [.int .i64 (i : Int), .int .i64 (n : Int), .int .i64 (m : Int)]) t_kr)<|zR st37 Tryz.zeroValue52 X X ?_
    intro b40 w41 st42
    refine zI st42 (k := 2) X X X (zg X (zg X (zg X zX))) Tryz.sizeOf52 X X X ?_
    intro w43 st44
    obtain ⟨h45, le46, hb47, st49⟩ := st44.freeze (k := 2) rfl
    have hc48 := Cells.of hb47
    refine E<|M ?_
    have hp0 := place_mk (w := m) hc hln (by omega)
    have hhd := winD_ok ho.1 hp0
    simp only [mkP] at hp0 hhd
    have hwd : ∃ y, (ln)[m]? = some y := ⟨_, List.getElem?_eq_getElem (by omega)⟩
    obtain ⟨wd, hwd⟩ := hwd
    obtain ⟨b50, o51, _, he53, hc52, hr_wd⟩ := Sl.elem (f34.up (le36.trans le46)) hwd
    obtain ⟨rfl, ls54⟩ := hr_wd
    simp only [big] at ls54
    refine zac (er := ([], [3], [0], [], 0)) (dsts := [38, 39, 40, 41, 42, 43, 44, 45, 46, 47, 48, 49, 50, 3]) st49 Tryz.mixed<|zi 0 [] X t_kr t_kr X X (fun hD wD τD hL hS hO  => (zA (v := v_3) X))<|zi 1 [] X t_kr t_kr X X (fun hD wD τD hL hS hO  => (zf (hL.sub hS) hc48 X Tryz.isAgg52 Tryz.sizeOf52 X))<|zi 2 [] X t_kr t_kr X X (fun hD wD τD hL hS hO  => (zA (v := v33) X))<|zi 3 [] X t_kr t_kr X X (fun hD wD τD hL hS hO  => (zo X))<|zi 4 [1, 0] X t_kr t_kr X X (fun hD wD τD hL hS hO _ _ _ _ => (zq he53 X X (hk := X) (hu := Tryz.underlying33) (hz := Tryz.sizeOf9)))<|zi 5 [0] X t_kr t_kr X X (fun hD wD τD hL hS hO _ _ => (zb (j := 0) (hL.sub hS) hc52 X X X Tryz.isAgg9))<|zi 6 [] X t_kr t_kr X X (fun hD wD τD hL hS hO  => (r_mvP X))<|zi 7 [] X t_kr t_kr X X (fun hD wD τD hL hS hO  => (zf (hL.sub hS) hc48 X Tryz.isAgg52 Tryz.sizeOf52 X)) ?_
    refine zS 8 (.det (.agg (List.toArray [.int .i64 ((winD (o).lex ((Place.mk ((i : Int)) ((n : Int)) ((m : Int)))) (wordD (o).text ((Place.mk ((i : Int)) ((n : Int)) ((m : Int)))))).number), .int .u8 ((winD (o).lex ((Place.mk ((i : Int)) ((n : Int)) ((m : Int)))) (wordD (o).text ((Place.mk ((i : Int)) ((n : Int)) ((m : Int)))))).kind), strV ((winD (o).lex ((Place.mk ((i : Int)) ((n : Int)) ((m : Int)))) (wordD (o).text ((Place.mk ((i : Int)) ((n : Int)) ((m : Int)))))).form), .int .i64 ((winD (o).lex ((Place.mk ((i : Int)) ((n : Int)) ((m : Int)))) (wordD (o).text ((Place.mk ((i : Int)) ((n : Int)) ((m : Int)))))).at_.chapter), .int .i64 ((winD (o).lex ((Place.mk ((i : Int)) ((n : Int)) ((m : Int)))) (wordD (o).text ((Place.mk ((i : Int)) ((n : Int)) ((m : Int)))))).at_.line), .int .i64 ((winD (o).lex ((Place.mk ((i : Int)) ((n : Int)) ((m : Int)))) (wordD (o).text ((Place.mk ((i : Int)) ((n : Int)) ((m : Int)))))).at_.word), strV ((winD (o).lex ((Place.mk ((i : Int)) ((n : Int)) ((m : Int)))) (wordD (o).text ((Place.mk ((i : Int)) ((n : Int)) ((m : Int)))))).to.stem), .int .u8 ((winD (o).lex ((Place.mk ((i : Int)) ((n : Int)) ((m : Int)))) (wordD (o).text ((Place.mk ((i : Int)) ((n : Int)) ((m : Int)))))).to.mark), .int .i64 ((winD (o).lex ((Place.mk ((i : Int)) ((n : Int)) ((m : Int)))) (wordD (o).text ((Place.mk ((i : Int)) ((n : Int)) ((m : Int)))))).of_)]))) [1, 0] rfl t_kr t_kr ?_ ?_
    ·
     intro hD wD τD hL hS hO _ _ _ _
     have st55 := St.start hS
     refine zm st55 rfl rfl rfl Tryz.call104 rfl (c_stem_office_wins st55.sub (o := o) (o_f0.up (((((le2.trans le20).trans le25).trans le36).trans le46).trans hL)) (o_f1.up (((((le2.trans le20).trans le25).trans le36).trans le46).trans hL)) (o_f2.up (((((le2.trans le20).trans le25).trans le36).trans le46).trans hL)) (o_f3.up (((((le2.trans le20).trans le25).trans le36).trans le46).trans hL)) (o_c.up (((((le2.trans le20).trans le25).trans le36).trans le46).trans hL)) (p := (Place.mk ((i : Int)) ((n : Int)) ((m : Int)))) (K0.up (((((le2.trans le20).trans le25).trans le36).trans le46).trans hL)) (by exact ho) (by exact hp0)) ?_
     intro r56 w57 h58 le59 st60 q61
     obtain rfl := q61
     exact E ⟨_, _, rfl, st60, (), rfl, trivial⟩
    refine zi 9 [0] X t_kr t_kr X X (fun hD wD τD hL hS hO _ _ => (r_fieldN (us := [strV ((winD (o).lex ((Place.mk ((i : Int)) ((n : Int)) ((m : Int)))) (wordD (o).text ((Place.mk ((i : Int)) ((n : Int)) ((m : Int)))))).to.stem), .int .u8 ((winD (o).lex ((Place.mk ((i : Int)) ((n : Int)) ((m : Int)))) (wordD (o).text ((Place.mk ((i : Int)) ((n : Int)) ((m : Int)))))).to.mark)]) X Tryz.underlying56 X Tryz.isAgg54 Tryz.sizeOf54 X X))<|zi 10 [8, 4, 0] X t_kr t_kr X X (fun hD wD τD hL hS hO _ _ _ _ _ _ => (r_build (cs := [.int .i64 (i : Int), .int .i64 (n : Int), .int .i64 (m : Int), strV wd, strV ((winD (o).lex ((Place.mk ((i : Int)) ((n : Int)) ((m : Int)))) (wordD (o).text ((Place.mk ((i : Int)) ((n : Int)) ((m : Int)))))).to.stem), .int .u8 ((winD (o).lex ((Place.mk ((i : Int)) ((n : Int)) ((m : Int)))) (wordD (o).text ((Place.mk ((i : Int)) ((n : Int)) ((m : Int)))))).to.mark)]) t_kr)) ?_
    refine zS 11 (.res (fun h' res_ => Sl LEntry h' res_ ([(Entry.mk ((Place.mk ((i : Int)) ((n : Int)) ((m : Int)))) (wd) ((winD (o).lex ((Place.mk ((i : Int)) ((n : Int)) ((m : Int)))) (wordD (o).text ((Place.mk ((i : Int)) ((n : Int)) ((m : Int)))))).to))])) (fun _ _ _ hl f => f.up hl)) [0] rfl t_kr t_kr ?_ ?_
    ·
     intro hD wD τD hL hS hO _ _
     have st62 := St.start hS
     refine zU (L := LEntry) (xs := [(Entry.mk ((Place.mk ((i : Int)) ((n : Int)) ((m : Int)))) (wd) ((winD (o).lex ((Place.mk ((i : Int)) ((n : Int)) ((m : Int)))) (wordD (o).text ((Place.mk ((i : Int)) ((n : Int)) ((m : Int)))))).to))]) (cs := [.int .i64 (i : Int), .int .i64 (n : Int), .int .i64 (m : Int), strV wd, strV ((winD (o).lex ((Place.mk ((i : Int)) ((n : Int)) ((m : Int)))) (wordD (o).text ((Place.mk ((i : Int)) ((n : Int)) ((m : Int)))))).to.stem), .int .u8 ((winD (o).lex ((Place.mk ((i : Int)) ((n : Int)) ((m : Int)))) (wordD (o).text ((Place.mk ((i : Int)) ((n : Int)) ((m : Int)))))).to.mark)]) st62 (Enc.cons (L := LEntry) (vs := [.int .i64 (i : Int), .int .i64 (n : Int), .int .i64 (m : Int), strV wd, strV ((winD (o).lex ((Place.mk ((i : Int)) ((n : Int)) ((m : Int)))) (wordD (o).text ((Place.mk ((i : Int)) ((n : Int)) ((m : Int)))))).to.stem), .int .u8 ((winD (o).lex ((Place.mk ((i : Int)) ((n : Int)) ((m : Int)))) (wordD (o).text ((Place.mk ((i : Int)) ((n : Int)) ((m : Int)))))).to.mark)]) (x := (Entry.mk ((Place.mk ((i : Int)) ((n : Int)) ((m : Int)))) (wd) ((winD (o).lex ((Place.mk ((i : Int)) ((n : Int)) ((m : Int)))) (wordD (o).text ((Place.mk ((i : Int)) ((n : Int)) ((m : Int)))))).to))) (h := hD) (⟨rfl, zZ, zZ, t_u8⟩) Enc.nil) X X X Tryz.underlying117 Tryz.info120 X X X t_kr ?_
     intro v63 w64 h67 le68 f65 st66
     exact E ⟨_, _, rfl, st66, _, rfl, f65⟩
    refine zaf<|zaf<|zaq X X X X X X ⟨t_kr, X, t_kr, X, t_kr, X, X, t_kr, (zY X (zY X cx_nil))⟩ ?_
    intro hE70 w71 _ le72 st73 _ _ gv11_0x69 gf11_0x69 _ _
    refine zQ (k := 0) (nb := 64) st73 (hO_3.up (le46.trans le72)) rfl gf11_0x69 rfl rfl rfl Tryz.underlying117 Tryz.info120 rfl rfl rfl (by decide) rfl (by have q1 := flatMap_len (chapP_len ht) i; have q2 := flatMap_len (lineP_len ht i) n; have q3 := chapters_len ht; have q4 := wordsAt_len ht i n; have q5 := linesAt_len ht i; rw [linesAt_some hc] at q5; rw [wordsAt_some hc hln] at q4; simp only [List.length_append, List.length_map, List.length_range, List.length_cons, List.length_nil]; omega) (by have q1 := flatMap_len (chapP_len ht) i; have q2 := flatMap_len (lineP_len ht i) n; have q3 := chapters_len ht; have q4 := wordsAt_len ht i n; have q5 := linesAt_len ht i; rw [linesAt_some hc] at q5; rw [wordsAt_some hc hln] at q4; simp only [List.length_append, List.length_map, List.length_range, List.length_cons, List.length_nil]; omega) ?_
    intro v74 o75 w76 _ e77 f78 st79
    subst e77
    refine E ⟨_, rfl, _, _, Le.refl _, st79, ?_⟩
    intro hE81 w82 _ le83 st84 _ _ _ _ _ _ _ _ _ _ _ _ _ _ _ _ _ _ _ _ _ _ gv11_0x80 gf11_0x80
    refine Y X X (zG (v := v74) X) ?_
    refine E ⟨_, rfl, _, _, Le.refl _, st84, ?_⟩
    intro hE85 w86 _ le87 st88 _ _ _ _ _ _ _ _ _ _ _ _ _ _ _ _ _ _ _ _ _ _ gv11_0x89 gf11_0x89
    refine AllDeps.fin X<|zL<|M<|O<|Y X X (zai X X t_om)<|Y X X (zo X)<|E<|M ?_
    refine ⟨⟨m + 1, v74, o75, hE85⟩, ⟨rfl, rfl, trivial⟩, ?_, ⟨((((le36.trans le46).trans le72).trans le83).trans le87), st88.take 2, ?_, ?_⟩, ?_⟩
    ·exact zag
    ·refine OSl.to (f78.up (le83.trans le87)) ?_
     have hww := word_mk hc hln hwd
     simp only [mkP] at hww
     rw [List.range_succ]; simp only [List.map_append, List.append_assoc, List.map_cons, List.map_nil, entryAt, headAt, mkP, hww]
    ·first | omega | (simp; omega)
    ·show ln.length - ((m + 1)) < ln.length - m
     omega
   ·
    replace c39 := of_decide_eq_false c39
    refine zab<|zn<|zn<|zT<|zL<|M<|O<|Y X X (zai X X t_om)<|Y X X (zo X)<|E<|M ?_
    refine ⟨⟨n + 1, v_3, o_3, h35⟩, ⟨rfl, rfl, trivial⟩, ?_, ⟨(le25.trans le36), st37, ?_, ?_⟩, ?_⟩
    ·exact zag
    ·refine OSl.to hO_3 ?_
     rw [range_flat_succ, ← lineP_snoc hc hln (w := m) (by omega), List.append_assoc]
    ·first | omega | (simp; omega)
    ·show c.lines.length - ((n + 1)) < c.lines.length - n
     omega
  ·
   replace c28 := of_decide_eq_false c28
   refine zab<|zn<|zn<|zT<|zL<|M<|O<|Y X X (zai X X t_om)<|Y X X (zo X)<|E<|M ?_
   refine ⟨⟨i + 1, v_3, o_3, h24⟩, ⟨rfl, rfl, trivial⟩, ?_, ⟨((le2.trans le20).trans le25), st26.take 1, ?_, ?_⟩, ?_⟩
   ·exact zag
   ·refine OSl.to hO_3 ?_
    rw [range_flat_succ, ← chapP_snoc hc (n := n) (by omega)]
   ·first | omega | (simp; omega)
   ·show o.text.chapters.length - ((i + 1)) < o.text.chapters.length - i
    omega
 ·
  replace c7 := of_decide_eq_false c7
  refine zab<|zn<|zn<|zT<|M<|zd<|O<|Y X X (zA (v := v_3) X)<|Y X X (zG (v := v_3) X)<|E<|M<|zy<|zh Tryz.results56 ?_
  refine ⟨h1, _, _, rfl, le2, st3, OSl.to hO_3 ?_⟩
  rw [show i = o.text.chapters.length by omega]; rfl
end Go.Pk

namespace Go.Pk
open Go Go.RowKit Go.Proofs
set_option maxRecDepth 4000 in
theorem c_stem_under {h : Heap} {w : World} (hs : Sub h w) {t : Text} {t_v0 : Value} (t_f0 : Sl LChapter h t_v0 t.chapters) {x : Lexicon} {x_v0 : Value} (x_f0 : Sl LRule h x_v0 x.rules) {x_v1 : Value} (x_f1 : Sl LDecision h x_v1 x.decisions) {hd : Head} (hd_l1 : hd.stem.length ≤ 281474976710656) (hd_l2 : 0 ≤ hd.mark ∧ hd.mark ≤ 255) (K0 : Cells h 0 0 Tryz.glob0) : Calls Tryz.prog 79 #[.agg #[t_v0], .agg #[x_v0, x_v1], .agg #[strV hd.stem, .int .u8 hd.mark]] w (Rets h w (fun h' _ res_ => ∃ u0, res_ = .tuple #[u0, .int .i64 (underE t x hd)] ∧ Sl LEntry h' u0 ((underN t x hd)))) := by
 refine zM (n := 31) (args := [.agg #[t_v0], .agg #[x_v0, x_v1], .agg #[strV hd.stem, .int .u8 hd.mark]]) Tryz.func79 X X X ?_
 have st0 : St h w h w [] := St.start hs
 have t_f0_b := t_f0.le
 have x_f0_b := x_f0.le
 have x_f1_b := x_f1.le
 refine zd<|O<|zp st0 (cs := [t_v0]) X X X ?_
 intro b1 w2 h3 le4 hc5 st6
 refine zp st6 (cs := [x_v0, x_v1]) X X X ?_
 intro b7 w8 h9 le10 hc11 st12
 refine zp st12 (cs := [strV (hd.stem), .int .u8 (hd.mark)]) X X X ?_
 intro b13 w14 h15 le16 hc17 st18
 refine Y X X (r_asL X)<|Y X X (zz X)<|E<|M<|zd<|O<|Y X X (zf st18.sub (hc5.up (le10.trans le16)) X Tryz.isAgg24 Tryz.sizeOf24 X)<|Y X X (zf st18.sub (hc11.up le16) X Tryz.isAgg28 Tryz.sizeOf28 X)<|zm st18 X X X Tryz.call40 X (c_stem_open st18.sub (t := t) (t_f0.up ((le4.trans le10).trans le16)) (x := x) (x_f0.up ((le4.trans le10).trans le16)) (x_f1.up ((le4.trans le10).trans le16)) (K0.up ((le4.trans le10).trans le16))) ?_
 intro r19 w20 h21 le22 st23 q24
 rcases Bool.eq_false_or_eq_true (decide (checkN (t) (x) = 0)) with hb25 | hb25
 ·
  simp only [hb25, if_true, if_false, Bool.false_eq_true, reduceIte] at q24
  obtain ⟨v26, rfl, f27⟩ := q24
  obtain ⟨b28, vs29, rfl, hc30, hr31⟩ := f27
  obtain ⟨v32, v34, v36, v38, rfl, f33, f35, f37, lm39⟩ := hr31
  have f33_b := f33.le
  have f35_b := f35.le
  have f37_b := f37.le
  refine Y X X (r_mvT X)<|Y X X (zC (v := (.pointer (some _))) X X)<|Y X X (zC (v := (.int _ _)) X X)<|Y X X (r_asP X)<|Y X X (zz X)<|E<|M<|zd<|zd<|O<|Y X X (zo X)<|Y X X (r_neq X X)<|E<|M ?_
  refine zr rfl (fun c40 => ?_) (fun c40 => ?_)
  ·
   replace c40 := of_decide_eq_true c40
   refine zd<|O<|Y X X (zo X)<|Y X X (r_asL X)<|Y X X (zz X)<|E<|M<|zy<|zj<|zP Tryz.results79 ?_
   refine ⟨h21, _, rfl, st23.done, ?_⟩
   refine ⟨_, tup2 rfl (zV ?_), Sl.to (Sl.nil _ _) ?_⟩
   all_goals simp_all [underN, underE]
  ·
   replace c40 := of_decide_eq_false c40
   refine zB<|M<|zd<|zd<|O<|Y X X (zf st23.sub (hc17.up le22) X Tryz.isAgg54 Tryz.sizeOf54 X)<|zm st23 X X X Tryz.call100 X (c_stem_right st23.sub (hd := hd) zZ t_u8) ?_
   intro r41 w42 h43 le44 st45 q46
   obtain rfl := q46
   refine Y X X (r_not X)<|E<|M ?_
   refine zr rfl (fun c47 => ?_) (fun c47 => ?_)
   ·
    refine zd<|O<|Y X X (r_asL X)<|Y X X (zz X)<|E<|M<|zy<|zj<|zP Tryz.results79 ?_
    refine ⟨h43, _, rfl, st45.done, ?_⟩
    refine ⟨_, tup2 rfl (zV ?_), Sl.to (Sl.nil _ _) ?_⟩
    all_goals simp_all [underN, underE]
   ·
    refine zB<|M<|zd ?_
    have hx0 : checkN t x = 0 := by simpa using c40
    have hh0 : headB hd = true := by simpa using c47
    refine O<|Y X X (r_mvP X) ?_
    refine zaa rfl rfl (zah rfl Tryz.call56 rfl) ((c_stem_office_entries_own st45.sub (o := (Office.mk (x) (t) (standM (x)))) (f33.up le44) (f35.up le44) (f37.up le44) (lm39.up le44) (hc30.up le44) (K0.up ((((le4.trans le10).trans le16).trans le22).trans le44)) (by exact ⟨hx0, rfl⟩)).mono ?_)
    rintro _ w49 ⟨h50, v48, o53, rfl, le51, s55, f54⟩
    refine ⟨_, rfl, ?_⟩
    have st52 := st45.call s55
    have f56 := OSl.to f54 (show _ = (entriesL t x) from rfl)
    refine Y X X (r_make_func X X) ?_
    have con := c_slices_DeleteFunc_Lstem_entry_stem_entry (rest := []) f56 (g := 114) (caps := [.pointer (some ⟨b13, 0, none⟩)]) (fun x_ => decide ((x_).head ≠ (hd))) (by have := entries_len (check_text hx0) x; omega) Tryz.call114 (fun x_ h_ w_ vs_ le_ hs_ hx_ hr_ u_ hu_ => by obtain ⟨rfl, f0_, f1_, f2_⟩ := hr_; cases hu_; simp only [big] at *; exact c_stem_under_1 hs_ (y := x_) f0_ f1_ f2_ (hd := hd) (by assumption) (by assumption) ((hc17.up ((le22.trans le44).trans le51)).up le_)) st52
    refine zaa rfl rfl (zah rfl Tryz.call113 rfl) (con.mono ?_)
    rintro _ w57 ⟨h58, o59, v60, rfl, le61, st62, f63⟩
    refine ⟨_, rfl, ?_⟩
    clear con
    refine Y X X (zG (v := v60) X)<|E ?_
    have huf := under_filter t x hd
    have hel := entries_len (check_text hx0) x
    have hfl := List.length_filter_le (fun y : Entry => !decide (y.head ≠ hd)) (entriesL t x)
    have hul : ((entriesL t x).filter fun y => !decide (y.head ≠ hd)).length = (underP t x hd).length := by rw [huf, List.length_map]
    refine M<|zd<|zd<|O<|Y X X (zA (v := v60) X)<|Y X X (r_len_own f63 X Tryz.underlying117)<|Y X X (r_eql X X)<|E<|M ?_
    refine zr rfl (fun c64 => ?_) (fun c64 => ?_)
    ·
     replace c64 := of_decide_eq_true c64
     refine zd<|O<|Y X X (r_asL X)<|Y X X (zz X)<|E<|M<|zy<|zj<|zP Tryz.results79 ?_
     refine ⟨h58, _, rfl, st62.done, ?_⟩
     refine ⟨_, tup2 rfl (zV ?_), Sl.to (Sl.nil _ _) ?_⟩
     all_goals (have q1 := c64)
     all_goals (have q2 : underP t x hd = [] := List.eq_nil_of_length_eq_zero (by omega))
     all_goals simp [underN, underE, hx0, hh0, q2]
    ·
     replace c64 := of_decide_eq_false c64
     refine zB<|M<|zd<|O<|Y X X (zA (v := v60) X)<|Y X X (zG (v := v60) X)<|Y X X (zz X)<|E<|M<|zy<|zP Tryz.results79 ?_
     obtain ⟨h65, le66, f67, st68⟩ := OSl.freeze (k := 0) st62 f63 rfl (by omega)
     refine ⟨h65, _, rfl, st68.done, ?_⟩
     refine ⟨_, tup2 rfl (zV ?_), Sl.to f67 ?_⟩
     all_goals (have q1 := c64)
     all_goals (have q2 : ¬ underP t x hd = [] := by intro q; rw [q] at hul; simp only [List.length_nil] at hul; omega)
     ·simp [underE, hx0, hh0, q2]
     ·simp only [underN, underE, hx0, hh0, q2, if_true, if_false]
 ·
  simp only [hb25, if_true, if_false, Bool.false_eq_true, reduceIte] at q24
  obtain ⟨v69, rfl, f70⟩ := q24
  obtain rfl := f70
  refine Y X X (r_mvT X)<|Y X X (zC (v := (.pointer none)) X X)<|Y X X (zC (v := (.int _ _)) X X)<|Y X X (zG X)<|Y X X (zz X)<|E<|M<|zd<|zd<|O<|Y X X (zo X)<|Y X X (r_neq X X)<|E<|M ?_
  refine zr rfl (fun c71 => ?_) (fun c71 => ?_)
  ·
   replace c71 := of_decide_eq_true c71
   refine zd<|O<|Y X X (zo X)<|Y X X (r_asL X)<|Y X X (zz X)<|E<|M<|zy<|zj<|zP Tryz.results79 ?_
   refine ⟨h21, _, rfl, st23.done, ?_⟩
   refine ⟨_, tup2 rfl (zV ?_), Sl.to (Sl.nil _ _) ?_⟩
   all_goals simp_all [underN, underE]
  ·
   replace c71 := of_decide_eq_false c71
   exfalso
   simp_all
set_option maxRecDepth 4000 in
theorem c_stem_Under {h : Heap} {w : World} (hs : Sub h w) {t : Text} {t_v0 : Value} (t_f0 : Sl LChapter h t_v0 t.chapters) {x : Lexicon} {x_v0 : Value} (x_f0 : Sl LRule h x_v0 x.rules) {x_v1 : Value} (x_f1 : Sl LDecision h x_v1 x.decisions) {hd : Head} (hd_l1 : hd.stem.length ≤ 281474976710656) (hd_l2 : 0 ≤ hd.mark ∧ hd.mark ≤ 255) (K0 : Cells h 0 0 Tryz.glob0) : Calls Tryz.prog 35 #[.agg #[t_v0], .agg #[x_v0, x_v1], .agg #[strV hd.stem, .int .u8 hd.mark]] w (Rets h w (fun h' _ res_ => ∃ u0, res_ = .tuple #[u0, .int .i64 (underE t x hd)] ∧ Sl LPlace h' u0 ((underR t x hd)))) := by
 refine zM (n := 36) (args := [.agg #[t_v0], .agg #[x_v0, x_v1], .agg #[strV hd.stem, .int .u8 hd.mark]]) Tryz.func35 X X X ?_
 have st0 : St h w h w [] := St.start hs
 have t_f0_b := t_f0.le
 have x_f0_b := x_f0.le
 have x_f1_b := x_f1.le
 refine zd<|O<|zp st0 (cs := [t_v0]) X X X ?_
 intro b1 w2 h3 le4 hc5 st6
 refine zp st6 (cs := [x_v0, x_v1]) X X X ?_
 intro b7 w8 h9 le10 hc11 st12
 refine zp st12 (cs := [strV (hd.stem), .int .u8 (hd.mark)]) X X X ?_
 intro b13 w14 h15 le16 hc17 st18
 refine Y X X (r_asL X)<|Y X X (zz X)<|E<|M<|zd<|O<|Y X X (zf st18.sub (hc5.up (le10.trans le16)) X Tryz.isAgg24 Tryz.sizeOf24 X)<|Y X X (zf st18.sub (hc11.up le16) X Tryz.isAgg28 Tryz.sizeOf28 X)<|Y X X (zf st18.sub hc17 X Tryz.isAgg54 Tryz.sizeOf54 X)<|zm st18 X X X Tryz.call79 X (c_stem_under st18.sub (t := t) (t_f0.up ((le4.trans le10).trans le16)) (x := x) (x_f0.up ((le4.trans le10).trans le16)) (x_f1.up ((le4.trans le10).trans le16)) (hd := hd) zZ t_u8 (K0.up ((le4.trans le10).trans le16))) ?_
 intro r19 w20 h21 le22 st23 q24
 obtain ⟨v25, rfl, f26⟩ := q24
 have f26_b := f26.le
 refine Y X X (r_mvT X)<|Y X X (zC (v := v25) X X)<|Y X X (zC (v := (.int _ _)) X X)<|Y X X (zG (v := v25) X)<|Y X X (zz X)<|E<|M<|zd<|zd<|O<|Y X X (zo X)<|Y X X (r_neq X X)<|E<|M ?_
 refine zr rfl (fun c27 => ?_) (fun c27 => ?_)
 ·
  replace c27 := of_decide_eq_true c27
  refine zd<|O<|Y X X (zo X)<|Y X X (r_asL X)<|Y X X (zz X)<|E<|M<|zy<|zj<|zP Tryz.results35 ?_
  refine ⟨h21, _, rfl, st23.done, ?_⟩
  refine ⟨_, tup2 rfl (zV ?_), Sl.to (Sl.nil _ _) ?_⟩
  all_goals simp_all [underR]
 ·
  replace c27 := of_decide_eq_false c27
  refine zB<|M<|zd ?_
  have hu0 : underE t x hd = 0 := by simpa using c27
  have hx0 : checkN t x = 0 := under_check hu0
  have hue : underN t x hd = (underP t x hd).map (entryAt t x) := by rw [underN, if_pos hu0, under_filter]
  have hul : (underN t x hd).length ≤ 600 := by rw [hue, List.length_map]; exact Nat.le_trans (List.length_filter_le _ _) (places_len (check_text hx0))
  refine O<|Y X X (r_asL X)<|E<|M<|zd<|zd<|O<|Y X X (zA (v := v25) X)<|Y X X (zae f26 X Tryz.underlying117)<|Y X X (zo X)<|E<|M<|zF ?_
  have st31 := st23.snoc
  have f32 := OSl.nil LPlace 52 h21
  refine zW [10, 12, 25, 26, 27, 28, 29, 30, 31, 32, 33, 34] (G := Nat × Value × List (Nat × Obj) × Heap) (fun ⟨i, v_10, o_10, h28⟩ => [(10, v_10), (25, .int .i64 (i : Int))]) (fun ⟨i, v_10, o_10, h28⟩ w' => Le h21 h28 ∧ St h w h28 w' [o_10] ∧ (OSl LPlace 52 h28 v_10 (((underN t x hd).take i).map (·.at_)) o_10) ∧ (i ≤ (underN t x hd).length)) (fun ⟨i, v_10, o_10, h28⟩ => (underN t x hd).length - i) ⟨0, (.slice none 0 0), [], h21⟩ ⟨rfl, rfl, trivial⟩ ⟨Le.refl _, st31, (OSl.to f32 (by rfl)), zak⟩ ?_
  rintro ⟨i, v_10, o_10, h28⟩ _ w33 ⟨le29, st30, hO_10, hi⟩
  refine zd<|O<|Y X X (zam X X)<|E<|M<|zd ?_
  refine zr rfl (fun c34 => ?_) (fun c34 => ?_)
  ·
   replace c34 := of_decide_eq_true c34
   refine zB<|M<|zd<|zF<|zd<|O ?_
   have hy : ∃ y, ((underN (t) (x) (hd)))[i]? = some y := ⟨_, List.getElem?_eq_getElem (by omega)⟩
   obtain ⟨y, hy⟩ := hy
   obtain ⟨b35, o36, _, he38, hc37, hr_y⟩ := Sl.elem (f26.up le29) hy
   obtain ⟨rfl, ls39, ls40, lu41⟩ := hr_y
   simp only [big] at ls39
   simp only [big] at ls40
   refine Y X X (zq he38 X X (hk := X) (hu := Tryz.underlying117) (hz := Tryz.sizeOf120))<|Y X X (zf st30.sub hc37 X Tryz.isAgg120 Tryz.sizeOf120 X)<|zR st30 Tryz.zeroValue120 X X ?_
   intro b42 w43 st44
   refine zI st44 (k := 1) X X X (zg X (zg X (zg X (zg X (zg X (zg X zX)))))) Tryz.sizeOf120 X X X ?_
   intro w45 st46
   obtain ⟨h47, le48, hb49, st51⟩ := st46.freeze (k := 1) rfl
   have hc50 := Cells.of hb49
   refine E<|M<|O<|Y X X (zA (v := v_10) X)<|Y X X (zc X Tryz.underlying120 X Tryz.sizeOf52 X)<|Y X X (zO (j := 0) st51.sub hc50 (us := [.int .i64 (y.at_.chapter), .int .i64 (y.at_.line), .int .i64 (y.at_.word)]) X X Tryz.isAgg52 Tryz.sizeOf52 X X)<|zU (L := LPlace) (xs := [y.at_]) (cs := [.int .i64 (y.at_.chapter), .int .i64 (y.at_.line), .int .i64 (y.at_.word)]) st51 (Enc.cons (L := LPlace) (vs := [.int .i64 (y.at_.chapter), .int .i64 (y.at_.line), .int .i64 (y.at_.word)]) (x := y.at_) (h := h47) (X) Enc.nil) X X X Tryz.underlying63 Tryz.info52 X X X t_kr ?_
   intro v52 w53 h56 le57 f54 st55
   refine zQ (k := 0) (nb := 24) st55 (hO_10.up (le48.trans le57)) rfl f54 rfl rfl rfl Tryz.underlying63 Tryz.info52 rfl rfl rfl (by decide) rfl (by have q := List.length_take_le i (underN t x hd); simp only [List.length_map, List.length_append, List.length_cons, List.length_nil]; omega) (by have q := List.length_take_le i (underN t x hd); simp only [List.length_map, List.length_append, List.length_cons, List.length_nil]; omega) ?_
   intro v58 o59 w60 _ e61 f62 st63
   subst e61
   refine Y X X (zG (v := v58) X)<|E<|zL<|M<|O<|Y X X (zai X X t_om)<|Y X X (zo X)<|E<|M ?_
   refine ⟨⟨i + 1, v58, o59, h56⟩, ⟨rfl, rfl, trivial⟩, ?_, ⟨((le29.trans le48).trans le57), st63.take 1, ?_, ?_⟩, ?_⟩
   ·exact zag
   ·refine OSl.to f62 ?_
    rw [take_snoc hy, List.map_append]; rfl
   ·first | omega | (simp; omega)
   ·show (underN t x hd).length - ((i + 1)) < (underN t x hd).length - i
    omega
  ·
   replace c34 := of_decide_eq_false c34
   refine zab<|zn<|zn<|zT<|M<|zd<|O<|Y X X (zA (v := v_10) X)<|Y X X (zG (v := v_10) X)<|Y X X (zz X)<|E<|M<|zy<|zP Tryz.results35 ?_
   obtain ⟨h64, le65, f66, st67⟩ := OSl.freeze (k := 0) st30 hO_10 rfl (by have q := List.length_take_le i (underN t x hd); simp only [List.length_map, List.length_append, List.length_cons, List.length_nil]; omega)
   refine ⟨h64, _, rfl, st67.done, ?_⟩
   refine ⟨_, tup2 rfl (zV ?_), Sl.to f66 ?_⟩
   ·exact hu0.symm
   ·rw [List.take_of_length_le (by omega), hue, List.map_map, underR, if_pos hu0]; exact List.map_id' _
set_option maxRecDepth 4000 in
theorem c_stem_Forms {h : Heap} {w : World} (hs : Sub h w) {t : Text} {t_v0 : Value} (t_f0 : Sl LChapter h t_v0 t.chapters) {x : Lexicon} {x_v0 : Value} (x_f0 : Sl LRule h x_v0 x.rules) {x_v1 : Value} (x_f1 : Sl LDecision h x_v1 x.decisions) {hd : Head} (hd_l1 : hd.stem.length ≤ 281474976710656) (hd_l2 : 0 ≤ hd.mark ∧ hd.mark ≤ 255) (K0 : Cells h 0 0 Tryz.glob0) : Calls Tryz.prog 37 #[.agg #[t_v0], .agg #[x_v0, x_v1], .agg #[strV hd.stem, .int .u8 hd.mark]] w (Rets h w (fun h' _ res_ => ∃ u0, res_ = .tuple #[u0, .int .i64 (underE t x hd)] ∧ Sl LStr h' u0 ((formsR t x hd)))) := by
 refine zM (n := 39) (args := [.agg #[t_v0], .agg #[x_v0, x_v1], .agg #[strV hd.stem, .int .u8 hd.mark]]) Tryz.func37 X X X ?_
 have st0 : St h w h w [] := St.start hs
 have t_f0_b := t_f0.le
 have x_f0_b := x_f0.le
 have x_f1_b := x_f1.le
 refine zd<|O<|zp st0 (cs := [t_v0]) X X X ?_
 intro b1 w2 h3 le4 hc5 st6
 refine zp st6 (cs := [x_v0, x_v1]) X X X ?_
 intro b7 w8 h9 le10 hc11 st12
 refine zp st12 (cs := [strV (hd.stem), .int .u8 (hd.mark)]) X X X ?_
 intro b13 w14 h15 le16 hc17 st18
 refine Y X X (r_asL X)<|Y X X (zz X)<|E<|M<|zd<|O<|Y X X (zf st18.sub (hc5.up (le10.trans le16)) X Tryz.isAgg24 Tryz.sizeOf24 X)<|Y X X (zf st18.sub (hc11.up le16) X Tryz.isAgg28 Tryz.sizeOf28 X)<|Y X X (zf st18.sub hc17 X Tryz.isAgg54 Tryz.sizeOf54 X)<|zm st18 X X X Tryz.call79 X (c_stem_under st18.sub (t := t) (t_f0.up ((le4.trans le10).trans le16)) (x := x) (x_f0.up ((le4.trans le10).trans le16)) (x_f1.up ((le4.trans le10).trans le16)) (hd := hd) zZ t_u8 (K0.up ((le4.trans le10).trans le16))) ?_
 intro r19 w20 h21 le22 st23 q24
 obtain ⟨v25, rfl, f26⟩ := q24
 have f26_b := f26.le
 refine Y X X (r_mvT X)<|Y X X (zC (v := v25) X X)<|Y X X (zC (v := (.int _ _)) X X)<|Y X X (zG (v := v25) X)<|Y X X (zz X)<|E<|M<|zd<|zd<|O<|Y X X (zo X)<|Y X X (r_neq X X)<|E<|M ?_
 refine zr rfl (fun c27 => ?_) (fun c27 => ?_)
 ·
  replace c27 := of_decide_eq_true c27
  refine zd<|O<|Y X X (zo X)<|Y X X (r_asL X)<|Y X X (zz X)<|E<|M<|zy<|zj<|zP Tryz.results37 ?_
  refine ⟨h21, _, rfl, st23.done, ?_⟩
  refine ⟨_, tup2 rfl (zV ?_), Sl.to (Sl.nil _ _) ?_⟩
  all_goals simp_all [formsR]
 ·
  replace c27 := of_decide_eq_false c27
  refine zB<|M<|zd ?_
  have hu0 : underE t x hd = 0 := by simpa using c27
  have hx0 : checkN t x = 0 := under_check hu0
  have hue : underN t x hd = (underP t x hd).map (entryAt t x) := by rw [underN, if_pos hu0, under_filter]
  have hul : (underN t x hd).length ≤ 600 := by rw [hue, List.length_map]; exact Nat.le_trans (List.length_filter_le _ _) (places_len (check_text hx0))
  refine O<|Y X X (r_asL X)<|E<|M<|zd<|zd<|O<|Y X X (zA (v := v25) X)<|Y X X (zae f26 X Tryz.underlying117)<|Y X X (zo X)<|E<|M<|zF ?_
  have st31 := st23.snoc
  have f32 := OSl.nil LStr 9 h21
  refine zW [10, 12, 25, 26, 27, 28, 29, 30, 31, 32, 33, 34] (G := Nat × Value × List (Nat × Obj) × Heap) (fun ⟨i, v_10, o_10, h28⟩ => [(10, v_10), (25, .int .i64 (i : Int))]) (fun ⟨i, v_10, o_10, h28⟩ w' => Le h21 h28 ∧ St h w h28 w' [o_10] ∧ (OSl LStr 9 h28 v_10 (((underN t x hd).take i).map (·.word)) o_10) ∧ (i ≤ (underN t x hd).length)) (fun ⟨i, v_10, o_10, h28⟩ => (underN t x hd).length - i) ⟨0, (.slice none 0 0), [], h21⟩ ⟨rfl, rfl, trivial⟩ ⟨Le.refl _, st31, (OSl.to f32 (by rfl)), zak⟩ ?_
  rintro ⟨i, v_10, o_10, h28⟩ _ w33 ⟨le29, st30, hO_10, hi⟩
  refine zd<|O<|Y X X (zam X X)<|E<|M<|zd ?_
  refine zr rfl (fun c34 => ?_) (fun c34 => ?_)
  ·
   replace c34 := of_decide_eq_true c34
   refine zB<|M<|zd<|zF<|zd<|O ?_
   have hy : ∃ y, ((underN (t) (x) (hd)))[i]? = some y := ⟨_, List.getElem?_eq_getElem (by omega)⟩
   obtain ⟨y, hy⟩ := hy
   obtain ⟨b35, o36, _, he38, hc37, hr_y⟩ := Sl.elem (f26.up le29) hy
   obtain ⟨rfl, ls39, ls40, lu41⟩ := hr_y
   simp only [big] at ls39
   simp only [big] at ls40
   refine Y X X (zq he38 X X (hk := X) (hu := Tryz.underlying117) (hz := Tryz.sizeOf120))<|Y X X (zf st30.sub hc37 X Tryz.isAgg120 Tryz.sizeOf120 X)<|zR st30 Tryz.zeroValue120 X X ?_
   intro b42 w43 st44
   refine zI st44 (k := 1) X X X (zg X (zg X (zg X (zg X (zg X (zg X zX)))))) Tryz.sizeOf120 X X X ?_
   intro w45 st46
   obtain ⟨h47, le48, hb49, st51⟩ := st46.freeze (k := 1) rfl
   have hc50 := Cells.of hb49
   refine E<|M<|O<|Y X X (zA (v := v_10) X)<|Y X X (zc X Tryz.underlying120 X Tryz.sizeOf9 X)<|Y X X (zb (j := 3) st51.sub hc50 X X X Tryz.isAgg9)<|zU (L := LStr) (xs := [(y.word)]) (cs := [strV (y.word)]) st51 (Enc.cons (L := LStr) (vs := [strV (y.word)]) (x := (y.word)) (h := h47) (⟨rfl, zZ⟩) Enc.nil) X X X Tryz.underlying33 Tryz.info9 X X X t_kr ?_
   intro v52 w53 h56 le57 f54 st55
   refine zQ (k := 0) (nb := 16) st55 (hO_10.up (le48.trans le57)) rfl f54 rfl rfl rfl Tryz.underlying33 Tryz.info9 rfl rfl rfl (by decide) rfl (by have q := List.length_take_le i (underN t x hd); simp only [List.length_map, List.length_append, List.length_cons, List.length_nil]; omega) (by have q := List.length_take_le i (underN t x hd); simp only [List.length_map, List.length_append, List.length_cons, List.length_nil]; omega) ?_
   intro v58 o59 w60 _ e61 f62 st63
   subst e61
   refine Y X X (zG (v := v58) X)<|E<|zL<|M<|O<|Y X X (zai X X t_om)<|Y X X (zo X)<|E<|M ?_
   refine ⟨⟨i + 1, v58, o59, h56⟩, ⟨rfl, rfl, trivial⟩, ?_, ⟨((le29.trans le48).trans le57), st63.take 1, ?_, ?_⟩, ?_⟩
   ·exact zag
   ·refine OSl.to f62 ?_
    rw [take_snoc hy, List.map_append]; rfl
   ·first | omega | (simp; omega)
   ·show (underN t x hd).length - ((i + 1)) < (underN t x hd).length - i
    omega
  ·
   replace c34 := of_decide_eq_false c34
   refine zab<|zn<|zn<|zT<|M<|zd<|O<|Y X X (zA (v := v_10) X) ?_
   have con := sort1 (L := LStr) (T := 9) (f := 57) strV (by rintro _ _ _ ⟨rfl, _⟩; rfl) rfl (fun l => l.mergeSort fun a b => decide (a ≤ b)) (fun l => List.mergeSort_perm _ _) (fun blk off cap zs w hH hb hs => Tryz.slices_Sort_string blk off cap zs w hH hb hs) (fun p cap w => Tryz.slices_Sort_string_none p cap w) (i := 0) st30 hO_10 rfl (by simp only [List.length_mergeSort, List.length_map, List.length_take]; omega)
   refine zaa rfl rfl (zah rfl Tryz.call57 rfl) (con.mono ?_)
   rintro _ w64 ⟨rfl, o65, _, e66, f67, st68⟩
   subst e66
   refine ⟨_, rfl, ?_⟩
   clear con
   refine E<|M<|zd<|O<|Y X X (zA (v := v_10) X) ?_
   have con := c_slices_Compact_Lstring_string (rest := []) f67 (by simp only [List.length_mergeSort, List.length_map, List.length_take]; omega) st68
   refine zaa rfl rfl (zah rfl Tryz.call58 rfl) (con.mono ?_)
   rintro _ w69 ⟨h70, o71, v72, rfl, le73, st74, f75⟩
   refine ⟨_, rfl, ?_⟩
   clear con
   have f76 := OSl.to f75 (show _ = (setL sLt ((underP t x hd).map (wordD t))) from by rw [List.take_of_length_le (by omega), hue, List.map_map]; exact setOf_sort _)
   refine Y X X (zG (v := v72) X)<|Y X X (zz X)<|E<|M<|zy<|zP Tryz.results37 ?_
   obtain ⟨h77, le78, f79, st80⟩ := OSl.freeze (k := 0) st74 f76 rfl (by have q := setL_len sLt_T ((underP t x hd).map (wordD t)); have q2 : (underP t x hd).length ≤ 600 := Nat.le_trans (List.length_filter_le _ _) (places_len (check_text hx0)); rw [List.length_map] at q; omega)
   refine ⟨h77, _, rfl, st80.done, ?_⟩
   refine ⟨_, tup2 rfl (zV ?_), Sl.to f79 ?_⟩
   ·exact hu0.symm
   ·rw [formsR, if_pos hu0]
set_option maxRecDepth 4000 in
theorem c_stem_Heads {h : Heap} {w : World} (hs : Sub h w) {t : Text} {t_v0 : Value} (t_f0 : Sl LChapter h t_v0 t.chapters) {x : Lexicon} {x_v0 : Value} (x_f0 : Sl LRule h x_v0 x.rules) {x_v1 : Value} (x_f1 : Sl LDecision h x_v1 x.decisions) (K0 : Cells h 0 0 Tryz.glob0) : Calls Tryz.prog 33 #[.agg #[t_v0], .agg #[x_v0, x_v1]] w (Rets h w (fun h' _ res_ => ∃ u0, res_ = .tuple #[u0, .int .i64 (checkN t x)] ∧ Sl LHead h' u0 ((headsN t x)))) := by
 refine zM (n := 37) (args := [.agg #[t_v0], .agg #[x_v0, x_v1]]) Tryz.func33 X X X ?_
 have st0 : St h w h w [] := St.start hs
 have t_f0_b := t_f0.le
 have x_f0_b := x_f0.le
 have x_f1_b := x_f1.le
 refine zd<|O<|zp st0 (cs := [t_v0]) X X X ?_
 intro b1 w2 h3 le4 hc5 st6
 refine zp st6 (cs := [x_v0, x_v1]) X X X ?_
 intro b7 w8 h9 le10 hc11 st12
 refine Y X X (r_asL X)<|Y X X (zz X)<|E<|M<|zd<|O<|Y X X (zf st12.sub (hc5.up le10) X Tryz.isAgg24 Tryz.sizeOf24 X)<|Y X X (zf st12.sub hc11 X Tryz.isAgg28 Tryz.sizeOf28 X)<|zm st12 X X X Tryz.call40 X (c_stem_open st12.sub (t := t) (t_f0.up (le4.trans le10)) (x := x) (x_f0.up (le4.trans le10)) (x_f1.up (le4.trans le10)) (K0.up (le4.trans le10))) ?_
 intro r13 w14 h15 le16 st17 q18
 rcases Bool.eq_false_or_eq_true (decide (checkN (t) (x) = 0)) with hb19 | hb19
 ·
  simp only [hb19, if_true, if_false, Bool.false_eq_true, reduceIte] at q18
  obtain ⟨v20, rfl, f21⟩ := q18
  obtain ⟨b22, vs23, rfl, hc24, hr25⟩ := f21
  obtain ⟨v26, v28, v30, v32, rfl, f27, f29, f31, lm33⟩ := hr25
  have f27_b := f27.le
  have f29_b := f29.le
  have f31_b := f31.le
  refine Y X X (r_mvT X)<|Y X X (zC (v := (.pointer (some _))) X X)<|Y X X (zC (v := (.int _ _)) X X)<|Y X X (r_asP X)<|Y X X (zz X)<|E<|M<|zd<|zd<|O<|Y X X (zo X)<|Y X X (r_neq X X)<|E<|M ?_
  refine zr rfl (fun c34 => ?_) (fun c34 => ?_)
  ·
   replace c34 := of_decide_eq_true c34
   refine zd<|O<|Y X X (zo X)<|Y X X (r_asL X)<|Y X X (zz X)<|E<|M<|zy<|zj<|zP Tryz.results33 ?_
   refine ⟨h15, _, rfl, st17.done, ?_⟩
   refine ⟨_, tup2 rfl (zV ?_), Sl.to (Sl.nil _ _) ?_⟩
   all_goals simp_all [headsN]
  ·
   replace c34 := of_decide_eq_false c34
   refine zB<|M<|zd ?_
   have hx0 : checkN t x = 0 := by simpa using c34
   have hel := entries_len (check_text hx0) x
   refine O<|Y X X (r_asL X)<|E<|M<|zd<|zd<|O<|Y X X (r_mvP X) ?_
   refine zm st17 rfl rfl rfl Tryz.call56 rfl (c_stem_office_entries st17.sub (o := (Office.mk (x) (t) (standM (x)))) f27 f29 f31 lm33 hc24 (K0.up ((le4.trans le10).trans le16)) (by exact ⟨hx0, rfl⟩)) ?_
   intro r35 w36 h37 le38 st39 q40
   obtain ⟨v41, e43, f42⟩ := q40
   rw [← e43] at f42
   have f42_b := f42.le
   have f44 := Sl.to f42 (show _ = (entriesL t x) from rfl)
   have f44_b := f44.le
   refine Y X X (zae f44 X Tryz.underlying117)<|Y X X (zo X)<|E<|M<|zF ?_
   have st48 := st39.snoc
   have f49 := OSl.nil LHead 54 h37
   refine zW [8, 10, 23, 24, 25, 26, 27, 28, 29, 30, 31, 32] (G := Nat × Value × List (Nat × Obj) × Heap) (fun ⟨i, v_8, o_8, h45⟩ => [(8, v_8), (23, .int .i64 (i : Int))]) (fun ⟨i, v_8, o_8, h45⟩ w' => Le h37 h45 ∧ St h w h45 w' [o_8] ∧ (OSl LHead 54 h45 v_8 (((entriesL t x).take i).map (·.head)) o_8) ∧ (i ≤ (entriesL t x).length)) (fun ⟨i, v_8, o_8, h45⟩ => (entriesL t x).length - i) ⟨0, (.slice none 0 0), [], h37⟩ ⟨rfl, rfl, trivial⟩ ⟨Le.refl _, st48, (OSl.to f49 (by rfl)), zak⟩ ?_
   rintro ⟨i, v_8, o_8, h45⟩ _ w50 ⟨le46, st47, hO_8, hi⟩
   refine zd<|O<|Y X X (zam X X)<|E<|M<|zd ?_
   refine zr rfl (fun c51 => ?_) (fun c51 => ?_)
   ·
    replace c51 := of_decide_eq_true c51
    refine zB<|M<|zd<|zF<|zd<|O ?_
    have hy : ∃ y, ((entriesL t x))[i]? = some y := ⟨_, List.getElem?_eq_getElem (by omega)⟩
    obtain ⟨y, hy⟩ := hy
    obtain ⟨b52, o53, _, he55, hc54, hr_y⟩ := Sl.elem (f44.up le46) hy
    obtain ⟨rfl, ls56, ls57, lu58⟩ := hr_y
    simp only [big] at ls56
    simp only [big] at ls57
    refine Y X X (zq he55 X X (hk := X) (hu := Tryz.underlying117) (hz := Tryz.sizeOf120))<|Y X X (zf st47.sub hc54 X Tryz.isAgg120 Tryz.sizeOf120 X)<|zR st47 Tryz.zeroValue120 X X ?_
    intro b59 w60 st61
    refine zI st61 (k := 1) X X X (zg X (zg X (zg X (zg X (zg X (zg X zX)))))) Tryz.sizeOf120 X X X ?_
    intro w62 st63
    obtain ⟨h64, le65, hb66, st68⟩ := st63.freeze (k := 1) rfl
    have hc67 := Cells.of hb66
    refine E<|M<|O<|Y X X (zA (v := v_8) X)<|Y X X (zc X Tryz.underlying120 X Tryz.sizeOf54 X)<|Y X X (zO (j := 4) st68.sub hc67 (us := [strV (y.head.stem), .int .u8 (y.head.mark)]) X X Tryz.isAgg54 Tryz.sizeOf54 X X)<|zU (L := LHead) (xs := [y.head]) (cs := [strV (y.head.stem), .int .u8 (y.head.mark)]) st68 (Enc.cons (L := LHead) (vs := [strV (y.head.stem), .int .u8 (y.head.mark)]) (x := y.head) (h := h64) (⟨rfl, zZ, t_u8⟩) Enc.nil) X X X Tryz.underlying80 Tryz.info54 X X X t_kr ?_
    intro v69 w70 h73 le74 f71 st72
    refine zQ (k := 0) (nb := 24) st72 (hO_8.up (le65.trans le74)) rfl f71 rfl rfl rfl Tryz.underlying80 Tryz.info54 rfl rfl rfl (by decide) rfl (by have q := List.length_take_le i (entriesL t x); simp only [List.length_map, List.length_append, List.length_cons, List.length_nil]; omega) (by have q := List.length_take_le i (entriesL t x); simp only [List.length_map, List.length_append, List.length_cons, List.length_nil]; omega) ?_
    intro v75 o76 w77 _ e78 f79 st80
    subst e78
    refine Y X X (zG (v := v75) X)<|E<|zL<|M<|O<|Y X X (zai X X t_om)<|Y X X (zo X)<|E<|M ?_
    refine ⟨⟨i + 1, v75, o76, h73⟩, ⟨rfl, rfl, trivial⟩, ?_, ⟨((le46.trans le65).trans le74), st80.take 1, ?_, ?_⟩, ?_⟩
    ·exact zag
    ·refine OSl.to f79 ?_
     rw [take_snoc hy, List.map_append]; rfl
    ·first | omega | (simp; omega)
    ·show (entriesL t x).length - ((i + 1)) < (entriesL t x).length - i
     omega
   ·
    replace c51 := of_decide_eq_false c51
    refine zab<|zn<|zn<|zT<|M<|zd ?_
    have hhl : ((entriesL t x).take i).map (·.head) = headsL t x := by rw [List.take_of_length_le (by omega), entriesL, List.map_map]; rfl
    refine O<|Y X X (zA (v := v_8) X) ?_
    have con := sortFunc (L := LHead) (T := 54) Tryz.sort_api_Head Tryz.isAgg54 Tryz.sizeOf54 (by decide) (fun x : Head => [strV x.stem, .int .u8 x.mark]) (by rintro _ _ _ ⟨rfl, _⟩; rfl) cmpHead swo_head (g := 75) (caps := []) (i := 0) st47 hO_8 rfl (by first | (have q9 := hp_ys.length_eq; simp only [List.length_map, List.length_take] at *; omega) | (simp only [List.length_map, List.length_take]; omega)) Tryz.call75 ?_
    rotate_left
    ·intro a_ ha_ b_ hb_ w_ hs_
     obtain ⟨_, rfl, p0, p1⟩ := OSl.memR hO_8 ha_
     obtain ⟨_, rfl, q0, q1⟩ := OSl.memR hO_8 hb_
     simp only [big] at *
     exact c_stem_Heads_1 hs_ (a := a_) p0 p1 (b := b_) q0 q1
    refine zaa rfl rfl (zah rfl Tryz.call74 rfl) (con.mono ?_)
    rintro _ w81 ⟨rfl, ys, o82, _, e83, hp_ys, hw_ys, f84, st85⟩
    subst e83
    refine ⟨_, rfl, ?_⟩
    clear con
    refine E<|M<|zd<|O<|Y X X (zA (v := v_8) X) ?_
    have con := c_slices_Compact_Lapi_Head_api_Head (rest := []) f84 (by first | (have q9 := hp_ys.length_eq; simp only [List.length_map, List.length_take] at *; omega) | (simp only [List.length_map, List.length_take]; omega)) st85
    refine zaa rfl rfl (zah rfl Tryz.call77 rfl) (con.mono ?_)
    rintro _ w86 ⟨h87, o88, v89, rfl, le90, st91, f92⟩
    refine ⟨_, rfl, ?_⟩
    clear con
    have f93 := OSl.to f92 (show _ = (setL headLt (headsL t x)) from setOf_compact headLt_T (hhl ▸ hp_ys) (hw_ys.imp fun h => by rw [← cmpHead_lt]; simpa using h))
    refine Y X X (zG (v := v89) X)<|Y X X (zz X)<|E<|M<|zy<|zP Tryz.results33 ?_
    obtain ⟨h94, le95, f96, st97⟩ := OSl.freeze (k := 0) st91 f93 rfl (by have q := setL_len headLt_T (headsL t x); have q2 := places_len (check_text hx0); rw [headsL, List.length_map] at q; simp only [headsL] at *; omega)
    refine ⟨h94, _, rfl, st97.done, ?_⟩
    refine ⟨_, tup2 rfl (zV ?_), Sl.to f96 ?_⟩
    ·exact hx0.symm
    ·simp [headsN, hx0]
 ·
  simp only [hb19, if_true, if_false, Bool.false_eq_true, reduceIte] at q18
  obtain ⟨v98, rfl, f99⟩ := q18
  obtain rfl := f99
  refine Y X X (r_mvT X)<|Y X X (zC (v := (.pointer none)) X X)<|Y X X (zC (v := (.int _ _)) X X)<|Y X X (zG X)<|Y X X (zz X)<|E<|M<|zd<|zd<|O<|Y X X (zo X)<|Y X X (r_neq X X)<|E<|M ?_
  refine zr rfl (fun c100 => ?_) (fun c100 => ?_)
  ·
   replace c100 := of_decide_eq_true c100
   refine zd<|O<|Y X X (zo X)<|Y X X (r_asL X)<|Y X X (zz X)<|E<|M<|zy<|zj<|zP Tryz.results33 ?_
   refine ⟨h15, _, rfl, st17.done, ?_⟩
   refine ⟨_, tup2 rfl (zV ?_), Sl.to (Sl.nil _ _) ?_⟩
   all_goals simp_all [headsN]
  ·
   replace c100 := of_decide_eq_false c100
   exfalso
   simp_all
end Go.Pk
