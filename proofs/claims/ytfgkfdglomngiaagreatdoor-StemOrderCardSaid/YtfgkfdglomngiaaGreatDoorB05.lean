/- A PART OF THE PROOF: contracts of functions, each walked once (much of it printed by a program of the author's own). -/
import Derived.Test.YtfgkfdglomngiaaGreatDoorT10
import Derived.Test.YtfgkfdglomngiaaGreatDoorT3
set_option linter.unusedSimpArgs false
set_option linter.unusedVariables false
namespace Go.Pk
open Go Go.RowKit Go.Proofs
set_option maxRecDepth 4000 in
set_option maxHeartbeats 4000000 in
theorem c_postillaw04_StemOrder {h : Heap} {w : World} (hs : Sub h w) {t : Text} {t_v0 : Value} (t_f0 : Sl LChapter h t_v0 t.chapters) {x : Lexicon} {x_v0 : Value} (x_f0 : Sl LRule h x_v0 x.rules) {x_v1 : Value} (x_f1 : Sl LDecision h x_v1 x.decisions) {by__v : Value} {by_ : (List Int)} (by__f : Sl LU32 h by__v by_) (K0 : Cells h 0 0 Tryz.glob0) : Calls Tryz.prog 4 #[.agg #[t_v0], .agg #[x_v0, x_v1], by__v] w (Rets h w (fun _ _ res_ => res_ = .bool (true))) := by
 refine zB (n := 212) (args := [.agg #[t_v0], .agg #[x_v0, x_v1], by__v]) Tryz.func4 X X X ?_
 have st0 : St h w h w [] := St.start hs
 have t_f0_b := t_f0.le
 have x_f0_b := x_f0.le
 have x_f1_b := x_f1.le
 have by__f_b := by__f.le
 refine W.sr<|zn st0 (cs := [t_v0]) X X X ?_
 intro b1 w2 h3 le4 hc5 st6
 refine zn st6 (cs := [x_v0, x_v1]) X X X ?_
 intro b7 w8 h9 le10 hc11 st12
 refine v_asB X X<|M<|W.sr<|O st12 X X X Tryz.call13 X (c_postillaw04_alive st12.sub (K0.up (le4.trans le10))) ?_
 intro r13 w14 h15 le16 st17 q18
 obtain rfl := q18
 refine v_asB X X<|M<|zl<|W.sr<|v_load_call st17.sub (hc5.up (le10.trans le16)) X Tryz.isAgg24 Tryz.sizeOf24 X X<|v_load_call st17.sub (hc11.up le16) X Tryz.isAgg28 Tryz.sizeOf28 X X<|O st17 X X X Tryz.call14 X (zae st17.sub (t := t) (t_f0.up ((le4.trans le10).trans le16)) (x := x) (x_f0.up ((le4.trans le10).trans le16)) (x_f1.up ((le4.trans le10).trans le16))) ?_
 intro r19 w20 h21 le22 st23 q24
 obtain rfl := q24
 refine v_not X X<|v_mvB X X ?_
 refine zk (d := 39) rfl (fun g25 => ?_) (fun g25 => ?_)
 ·
  refine Z X X X X X<|Z X X X X X<|v_pickT (v := (.bool _)) X X X<|M ?_
  refine zh rfl (fun c26 => ?_) (fun c26 => ?_)
  ·
   refine W.sr<|v_mvB X X<|v_asB X X<|M<|zq<|zc<|za Tryz.results4 ?_
   refine ⟨h21, _, rfl, st23.done, ?_⟩
   refine zj ?_
   simp_all
  ·
   cases c26
 ·
  refine Y X X (d := 39) X<|v_mvB X X<|Y X X (d := 39) X<|v_not X X<|v_pickF (v := (.bool _)) X X X<|M ?_
  refine zh rfl (fun c27 => ?_) (fun c27 => ?_)
  ·
   cases c27
  ·
   refine zo<|U<|zl ?_
   obtain ⟨⟨hs1, hs2⟩, hx0⟩ : (smallT t = true ∧ smallX x = true) ∧ checkN t x = 0 := by simpa using g25
   have ht0 := check_text hx0
   have hok := okD_of hx0
   have hpl := places_len ht0
   have hpp := places_pos ht0
   have hdl := lexicon_20 hx0
   have hrl := lexicon_12 hx0
   refine zg<|v_load_call st23.sub (hc11.up (le16.trans le22)) X Tryz.isAgg28 Tryz.sizeOf28 X X ?_
   refine zK rfl rfl (zW rfl Tryz.call23 rfl) ((c_postilref04_Twin_own st23.sub (x := x) (x_f0.up (((le4.trans le10).trans le16).trans le22)) (x_f1.up (((le4.trans le10).trans le16).trans le22)) (by exact ⟨by omega, by omega⟩)).mono ?_)
   rintro _ w28 ⟨h29, v33, v36, o34, o37, rfl, le30, s32, f35, f38⟩
   refine ⟨_, rfl, ?_⟩
   have st31 := st23.call s32
   refine zy st31 Tryz.zeroValue28 X X ?_
   intro b39 w40 st41
   refine zp st41 (k := 2) X X X (E f35.one (E f38.one zJ)) Tryz.sizeOf28 X X X ?_
   intro w42 st43
   obtain ⟨h44, le45, hb46, st48⟩ := st43.freeze (k := 2) rfl
   have hc47 := Cells.of hb46
   refine M<|zl<|W.sr<|v_field_addr X Tryz.underlying28 X Tryz.sizeOf26 X X<|v_load_cells1 (j := 1) st48.sub hc47 X X X Tryz.isAgg26 X<|v_len_own (f38.up le45) X Tryz.underlying26 X<|v_mvI X X<|M<|zw ?_
   refine zQ [9, 10, 11, 49, 50, 51, 52, 53, 54, 55, 56, 57, 58, 59, 60, 61, 62, 63, 64, 65, 66, 67, 68, 69, 70, 71, 72, 73, 74, 75, 76, 77] (G := Nat × List Decision × List (Nat × Obj) × Heap) (fun ⟨i, ds, o_k1, h49⟩ => [(49, .int .i64 (i : Int))]) (fun ⟨i, ds, o_k1, h49⟩ w' => Le h44 h49 ∧ St h w h49 w' [o34, o_k1, []] ∧ (OSl LDecision 34 h49 v36 (ds) o_k1) ∧ (i ≤ x.decisions.length) ∧ (ds.Perm x.decisions)) (fun ⟨i, ds, o_k1, h49⟩ => x.decisions.length - i) ⟨0, x.decisions, o37, h44⟩ ⟨rfl, trivial⟩ ⟨Le.refl _, st48, (OSl.to (f38.up le45) (by rfl)), zZ, (by exact List.Perm.refl _)⟩ ?_
   rintro ⟨i, ds, o_k1, h49⟩ _ w52 ⟨le50, st51, hO_k1, hi, hdp⟩
   have hdsl := hdp.length_eq
   refine W.sr<|v_lss X X X<|M<|zl ?_
   refine zh rfl (fun c53 => ?_) (fun c53 => ?_)
   ·
    replace c53 := of_decide_eq_true c53
    refine zo<|U<|zl<|zw<|W.sr<|v_mvI X X<|v_asI X X<|M<|W.sr<|v_move (v := by__v) X X<|v_mvI X X ?_
    refine O st51 rfl rfl rfl Tryz.call24 rfl (c_postillaw04_choose st51.sub (by__f.up ((((((le4.trans le10).trans le16).trans le22).trans le30).trans le45).trans le50)) _ (by omega)) ?_
    intro r54 w55 h56 le57 st58 q59
    obtain rfl := q59
    refine v_mvI X X<|v_add X X t_om X<|ze X X (r_rem X X t_om)<|v_asI X X<|zm ?_
    obtain ⟨j, hj⟩ : ∃ j : Nat, j = (chooseN by_ ((i : Int)).toNat).toNat % (i + 1) := ⟨_, rfl⟩
    have hji : j ≤ i := by have := Nat.mod_lt (chooseN by_ ((i : Int)).toNat).toNat (show 0 < i + 1 by omega); omega
    have hjt : (chooseN by_ ((i : Int)).toNat).tmod ((i : Int) + 1) = ((j : Nat) : Int) := by rw [hj]; exact tmod_nat (n := i + 1) (choose_pos (fun v hv => by obtain ⟨_, q⟩ := by__f.memR hv; obtain ⟨_, q1⟩ := q; omega))
    refine U<|W.sr<|v_field_addr X Tryz.underlying28 X Tryz.sizeOf26 X X<|v_load_cells1 (j := 1) st58.sub (hc47.up (le50.trans le57)) X X X Tryz.isAgg26 X<|v_mvI X X ?_
    have ha : ∃ y_, (ds)[i]? = some y_ := ⟨_, List.getElem?_eq_getElem (by omega)⟩
    obtain ⟨a, ha⟩ := ha
    obtain ⟨b60, o61, cur62, _, e65, he63, hr_a, hc64⟩ := OSl.elem (hO_k1.up le57) ha
    subst e65
    obtain ⟨rfl, lu66, ls67, ls68, lu69⟩ := hr_a
    simp only [big] at ls67
    simp only [big] at ls68
    refine v_index_el he63 X X (hk := X) (hu := Tryz.underlying26) (hz := Tryz.sizeOf34) X<|ze X X (r_load_curN (st58.get (k := 1) X) hc64 X Tryz.isAgg34 Tryz.sizeOf34 X)<|zy st58 Tryz.zeroValue34 X X ?_
    intro b70 w71 st72
    refine zp st72 (k := 3) X X X (E X (E X (E X (E X (E X (E X (E X (E X (E X zJ))))))))) Tryz.sizeOf34 X X X ?_
    intro w73 st74
    obtain ⟨h75, le76, hb77, st79⟩ := st74.freeze (k := 3) rfl
    have hc78 := Cells.of hb77
    refine M<|zl ?_
    have hb : ∃ y_, (ds)[j]? = some y_ := ⟨_, List.getElem?_eq_getElem (by omega)⟩
    obtain ⟨b, hb⟩ := hb
    obtain ⟨b80, o81, cur82, _, e85, he83, hr_b, hc84⟩ := OSl.elem (hO_k1.up (le57.trans le76)) hb
    obtain ⟨hb86, hc87⟩ : b60 = b80 ∧ cur62 = cur82 := by cases e85; exact ⟨rfl, rfl⟩
    subst hb86
    subst hc87
    obtain ⟨rfl, lu88, ls89, ls90, lu91⟩ := hr_b
    simp only [big] at ls89
    simp only [big] at ls90
    obtain ⟨b92, o93, cur94, _, e97, he95, hr_a, hc96⟩ := OSl.elem (hO_k1.up (le57.trans le76)) ha
    obtain ⟨hb98, hc99⟩ : b60 = b92 ∧ cur62 = cur94 := by cases e97; exact ⟨rfl, rfl⟩
    subst hb98
    subst hc99
    obtain ⟨rfl, lu100, ls101, ls102, lu103⟩ := hr_a
    simp only [big] at ls101
    simp only [big] at ls102
    refine zY (er := ([7], [], [], [], 0)) (dsts := [63, 64, 65, 66, 67, 68, 69, 70, 71]) st79 Tryz.mixed<|zb 0 [] X t_kr t_kr X X (fun hD wD τD hL hS hO  => (zC X Tryz.underlying28 X Tryz.sizeOf26 X))<|zb 1 [0] X t_kr t_kr X X (fun hD wD τD hL hS hO _ _ => (zf (j := 1) (hL.sub hS) (hc47.up ((le50.trans le57).trans le76)) X X X Tryz.isAgg26))<|zb 2 [] X t_kr t_kr X X (fun hD wD τD hL hS hO  => (r_mvI X))<|zb 3 [] X t_kr t_kr X X (fun hD wD τD hL hS hO  => (zC X Tryz.underlying28 X Tryz.sizeOf26 X))<|zb 4 [0] X t_kr t_kr X X (fun hD wD τD hL hS hO _ _ => (zf (j := 1) (hL.sub hS) (hc47.up ((le50.trans le57).trans le76)) X X X Tryz.isAgg26))<|zb 5 [] X t_kr t_kr X X (fun hD wD τD hL hS hO  => (r_mvI X)) ?_
    refine zb 6 [1, 0] rfl t_kr t_kr rfl rfl (fun hD wD τD hL hS hO _ _ _ _ => (zR he83 rfl rfl (hk := (show _ = ((j : Nat) : Int) by exact hjt)) (hu := Tryz.underlying26) (hz := Tryz.sizeOf34))) ?_
    refine zb 7 [0] X t_kr t_kr X X (fun hD wD τD hL hS hO _ _ => (r_load_curN ((hO X).get (k := 1) X) hc84 X Tryz.isAgg34 Tryz.sizeOf34 X))<|zb 8 [7, 6, 5, 4, 3, 2, 1, 0] X t_kr t_kr X X (fun hD wD τD hL hS hO _ _ _ _ _ _ _ _ _ _ _ _ _ _ _ _ => (zR he95 X X (hk := X) (hu := Tryz.underlying26) (hz := Tryz.sizeOf34)))<|Drw.ch<|Drw.nil X X X X X X ⟨t_kr, X, t_kr, X, t_kr, X, X, t_kr, (cx_cons X cx_nil)⟩ ?_
    intro hE105 w106 _ le107 st108 _ _ _ _ _ _ _ _ _ _ _ _ _ _ _ _ _ _
    refine OpsL.storeEl (k := 1) st108 (hO_k1.up ((le57.trans le76).trans le107)) rfl (by omega) he95 rfl rfl (⟨rfl, t_u8, zT, zT, t_u8⟩) Tryz.sizeOf34 ?_
    intro o109 w110 _ e111 f112 st113
    subst e111
    refine zm ⟨undef, rfl, _, _, Le.refl _, st113, ?_⟩
    intro hE114 w115 _ le116 st117 _ _ _ _ _ _ _ _ _ _ _ _ _ _ _ _ _ _
    refine AllDeps.fin X<|U<|zg<|v_field_addr X Tryz.underlying28 X Tryz.sizeOf26 X X<|v_load_cells1 (j := 1) st117.sub (hc47.up ((((le50.trans le57).trans le76).trans le107).trans le116)) X X X Tryz.isAgg26 X<|v_mvI X X<|v_load_call st117.sub (hc78.up (le107.trans le116)) X Tryz.isAgg34 Tryz.sizeOf34 X X ?_
    have hy119 : ∃ y_, ((ds.set i b))[j]? = some y_ := ⟨_, List.getElem?_eq_getElem (by rw [List.length_set]; omega)⟩
    obtain ⟨y119, hy119⟩ := hy119
    obtain ⟨b120, o121, cur122, _, e125, he123, hr_y119, hc124⟩ := OSl.elem (f112.up le116) hy119
    subst e125
    obtain ⟨rfl, lu126, ls127, ls128, lu129⟩ := hr_y119
    simp only [big] at ls127
    simp only [big] at ls128
    refine ze rfl rfl (zR he123 rfl rfl (hk := (show _ = ((j : Nat) : Int) by exact hjt)) (hu := Tryz.underlying26) (hz := Tryz.sizeOf34)) ?_
    refine OpsL.storeEl (k := 1) st117 (f112.up le116) rfl (by rw [List.length_set]; omega) he123 rfl rfl (⟨rfl, t_u8, zT, zT, t_u8⟩) Tryz.sizeOf34 ?_
    intro o130 w131 _ e132 f133 st134
    subst e132
    refine zm<|zt<|U<|zg<|v_add X X t_om X<|v_mvI X X<|M ?_
    refine ⟨⟨i + 1, ((ds.set i b).set j a), o130, hE114⟩, ⟨rfl, trivial⟩, ?_, ⟨((((le50.trans le57).trans le76).trans le107).trans le116), st134.take 3, ?_, ?_, ?_⟩, ?_⟩
    ·exact zU
    ·refine OSl.to f133 ?_
     rfl
    ·first | omega | (simp; omega)
    ·exact (swap_perm ha hb).trans hdp
    ·show x.decisions.length - ((i + 1)) < x.decisions.length - i
     omega
   ·
    replace c53 := of_decide_eq_false c53
    refine zS<|zi<|zi<|zM<|U<|zl ?_
    have hy0 : checkN t ⟨x.rules, ds⟩ = 0 := perm_check (y := ⟨x.rules, ds⟩) hx0 rfl hdp
    have hdl2 := hdp.length_eq
    refine zg<|v_load_call st51.sub (hc5.up (((((le10.trans le16).trans le22).trans le30).trans le45).trans le50)) X Tryz.isAgg24 Tryz.sizeOf24 X X<|v_load_call st51.sub (hc11.up ((((le16.trans le22).trans le30).trans le45).trans le50)) X Tryz.isAgg28 Tryz.sizeOf28 X X ?_
    refine O st51 rfl rfl rfl Tryz.call17 rfl (zag st51.sub (t := t) (t_f0.up ((((((le4.trans le10).trans le16).trans le22).trans le30).trans le45).trans le50)) (x := x) (x_f0.up ((((((le4.trans le10).trans le16).trans le22).trans le30).trans le45).trans le50)) (x_f1.up ((((((le4.trans le10).trans le16).trans le22).trans le30).trans le45).trans le50)) (K0.up ((((((le4.trans le10).trans le16).trans le22).trans le30).trans le45).trans le50)) (by exact hx0)) ?_
    intro r135 w136 h137 le138 st139 q140
    obtain ⟨v141, rfl, f142⟩ := q140
    have f142_b := f142.le
    refine v_mvT X X<|v_extract (v := v141) X X X<|v_extract (v := (.bool _)) X X X<|v_assign (v := v141) X X<|v_asB X X<|M<|W.sr<|v_load_call st139.sub (hc5.up ((((((le10.trans le16).trans le22).trans le30).trans le45).trans le50).trans le138)) X Tryz.isAgg24 Tryz.sizeOf24 X X<|v_load_call st139.sub (hc47.up (le50.trans le138)) X Tryz.isAgg28 Tryz.sizeOf28 X X ?_
    obtain ⟨h143, le144, f145, st146⟩ := OSl.freeze (k := 0) st139 (f35.up ((le45.trans le50).trans le138)) rfl (by omega)
    obtain ⟨h147, le148, f149, st150⟩ := OSl.freeze (k := 1) st146 (hO_k1.up (le138.trans le144)) rfl (by omega)
    have con := (zag st150.sub (t := t) (t_f0.up (((((((((le4.trans le10).trans le16).trans le22).trans le30).trans le45).trans le50).trans le138).trans le144).trans le148)) (x := (Lexicon.mk (((x)).rules) ds)) (f145.up le148) f149 (K0.up (((((((((le4.trans le10).trans le16).trans le22).trans le30).trans le45).trans le50).trans le138).trans le144).trans le148)) (by exact hy0))
    rw [headsL_perm (y := ⟨x.rules, ds⟩) hx0 rfl hdp] at con
    refine O st150 X X X Tryz.call17 X con ?_
    intro r151 w152 h153 le154 st155 q156
    obtain ⟨v157, rfl, f158⟩ := q156
    have f158_b := f158.le
    clear con
    refine v_mvT X X<|v_extract (v := v157) X X X<|v_extract (v := (.bool _)) X X X<|v_assign (v := v157) X X<|v_asB X X<|M<|W.sr<|v_load_call st155.sub (hc5.up (((((((((le10.trans le16).trans le22).trans le30).trans le45).trans le50).trans le138).trans le144).trans le148).trans le154)) X Tryz.isAgg24 Tryz.sizeOf24 X X<|v_load_call st155.sub (hc11.up ((((((((le16.trans le22).trans le30).trans le45).trans le50).trans le138).trans le144).trans le148).trans le154)) X Tryz.isAgg28 Tryz.sizeOf28 X X ?_
    have con := (c_stem_Idle st155.sub (t := t) (t_f0.up ((((((((((le4.trans le10).trans le16).trans le22).trans le30).trans le45).trans le50).trans le138).trans le144).trans le148).trans le154)) (x := x) (x_f0.up ((((((((((le4.trans le10).trans le16).trans le22).trans le30).trans le45).trans le50).trans le138).trans le144).trans le148).trans le154)) (x_f1.up ((((((((((le4.trans le10).trans le16).trans le22).trans le30).trans le45).trans le50).trans le138).trans le144).trans le148).trans le154)) (K0.up ((((((((((le4.trans le10).trans le16).trans le22).trans le30).trans le45).trans le50).trans le138).trans le144).trans le148).trans le154)))
    rw [hx0] at con
    refine O st155 X X X Tryz.call25 X con ?_
    intro r159 w160 h161 le162 st163 q164
    obtain ⟨v165, rfl, f166⟩ := q164
    have f166_b := f166.le
    clear con
    refine v_mvT X X<|v_extract (v := v165) X X X<|v_extract (v := (.int _ _)) X X X<|v_assign (v := v165) X X<|v_asI X X<|M<|W.sr<|v_load_call st163.sub (hc5.up ((((((((((le10.trans le16).trans le22).trans le30).trans le45).trans le50).trans le138).trans le144).trans le148).trans le154).trans le162)) X Tryz.isAgg24 Tryz.sizeOf24 X X<|v_load_call st163.sub (hc47.up (((((le50.trans le138).trans le144).trans le148).trans le154).trans le162)) X Tryz.isAgg28 Tryz.sizeOf28 X X ?_
    have con := (c_stem_Idle st163.sub (t := t) (t_f0.up (((((((((((le4.trans le10).trans le16).trans le22).trans le30).trans le45).trans le50).trans le138).trans le144).trans le148).trans le154).trans le162)) (x := (Lexicon.mk (((x)).rules) ds)) (f145.up ((le148.trans le154).trans le162)) (f149.up (le154.trans le162)) (K0.up (((((((((((le4.trans le10).trans le16).trans le22).trans le30).trans le45).trans le50).trans le138).trans le144).trans le148).trans le154).trans le162)))
    rw [hy0, idleN_perm (y := ⟨x.rules, ds⟩) hx0 rfl hdp] at con
    refine O st163 X X X Tryz.call25 X con ?_
    intro r167 w168 h169 le170 st171 q172
    obtain ⟨v173, rfl, f174⟩ := q172
    have f174_b := f174.le
    clear con
    refine v_mvT X X<|v_extract (v := v173) X X X<|v_extract (v := (.int _ _)) X X X<|v_assign (v := v173) X X<|v_asI X X<|M<|zl<|W.sr<|v_mvB X X<|v_not X X<|v_mvB X X<|Y X X (d := 104) X<|v_mvB X X<|Y X X (d := 104) X<|v_not X X<|v_pickF (v := (.bool _)) X X X<|v_mvB X X<|Y X X (d := 108) X<|v_move (v := v141) X X<|Y X X (d := 108) X<|v_move (v := v157) X X<|Y X X (d := 108) X ?_
    have con := (c_postilref04_SameHeads st171.sub (f142.up ((((le144.trans le148).trans le154).trans le162).trans le170)) (f158.up (le162.trans le170)))
    rw [show decide (headsL t x = headsL t x) = true from decide_eq_true rfl] at con
    refine O st171 X X X Tryz.call26 X con ?_
    intro r175 w176 h177 le178 st179 q180
    obtain rfl := q180
    clear con
    refine Y X X (d := 108) X<|v_not X X<|v_pickF (v := (.bool _)) X X X<|v_mvB X X<|Y X X (d := 114) X<|v_mvI X X<|Y X X (d := 114) X<|v_neq X X X<|v_pickF (v := (.bool _)) X X X<|v_mvB X X<|Y X X (d := 118) X<|v_mvI X X<|Y X X (d := 118) X<|v_neq X X X<|v_pickF (v := (.bool _)) X X X<|v_mvB X X<|Y X X (d := 122) X<|v_move (v := v165) X X<|Y X X (d := 122) X<|v_move (v := v173) X X<|Y X X (d := 122) X ?_
    have con := (c_postillaw04_sameInts st179.sub (f166.up (le170.trans le178)) (f174.up le178))
    rw [show decide (idleN t x = idleN t x) = true from decide_eq_true rfl] at con
    refine O st179 X X X Tryz.call27 X con ?_
    intro r181 w182 h183 le184 st185 q186
    obtain rfl := q186
    clear con
    refine Y X X (d := 122) X<|v_not X X<|v_pickF (v := (.bool _)) X X X<|M ?_
    refine zh rfl (fun c187 => ?_) (fun c187 => ?_)
    ·
     cases c187
    ·
     refine zo<|U<|zl<|W.sr<|v_load_call st185.sub (hc5.up (((((((((((((le10.trans le16).trans le22).trans le30).trans le45).trans le50).trans le138).trans le144).trans le148).trans le154).trans le162).trans le170).trans le178).trans le184)) X Tryz.isAgg24 Tryz.sizeOf24 X X ?_
     refine O st185 rfl rfl rfl Tryz.call19 rfl (c_postilref01_All st185.sub (t := t) (t_f0.up ((((((((((((((le4.trans le10).trans le16).trans le22).trans le30).trans le45).trans le50).trans le138).trans le144).trans le148).trans le154).trans le162).trans le170).trans le178).trans le184)) (by exact ht0)) ?_
     intro r188 w189 h190 le191 st192 q193
     obtain ⟨v194, e196, f195⟩ := q193
     rw [← e196] at f195
     have f195_b := f195.le
     refine v_len f195 X Tryz.underlying37 X<|v_mvI X X<|M<|zw ?_
     refine zQ [6, 21, 22, 23, 24, 25, 131, 132, 133, 134, 135, 136, 137, 138, 139, 140, 141, 142, 143, 144, 145, 146, 147, 148, 149, 150, 151, 152, 153, 154, 155, 156, 157, 158, 159, 160] (G := Nat × Heap) (fun ⟨k, h197⟩ => [(131, .int .i64 (k : Int))]) (fun ⟨k, h197⟩ w' => Le h190 h197 ∧ St h w h197 w' [[], [], []] ∧ (k ≤ (placesT t).length)) (fun ⟨k, h197⟩ => (placesT t).length - k) ⟨0, h190⟩ ⟨rfl, trivial⟩ ⟨Le.refl _, st192, zZ⟩ ?_
     rintro ⟨k, h197⟩ _ w200 ⟨le198, st199, hk⟩
     refine W.sr<|v_lss X X X<|M<|zl ?_
     refine zh rfl (fun c201 => ?_) (fun c201 => ?_)
     ·
      replace c201 := of_decide_eq_true c201
      refine zo<|U<|zl<|zw<|W.sr ?_
      have hp : ∃ y_, ((placesT (t)))[k]? = some y_ := ⟨_, List.getElem?_eq_getElem (by omega)⟩
      obtain ⟨p, hp⟩ := hp
      obtain ⟨b202, o203, _, he205, hc204, hr_p⟩ := Sl.elem (f195.up le198) hp
      obtain rfl := hr_p
      refine v_index_el he205 X X (hk := X) (hu := Tryz.underlying37) (hz := Tryz.sizeOf30) X<|v_load_call st199.sub hc204 X Tryz.isAgg30 Tryz.sizeOf30 X X<|zy st199 Tryz.zeroValue30 X X ?_
      intro b206 w207 st208
      refine zp st208 (k := 3) X X X (E X (E X (E X zJ))) Tryz.sizeOf30 X X X ?_
      intro w209 st210
      obtain ⟨h211, le212, hb213, st215⟩ := st210.freeze (k := 3) rfl
      have hc214 := Cells.of hb213
      refine M<|zl ?_
      have hp0 : placeB t p = true := placesT_mem (List.mem_of_getElem? hp)
      refine zg<|v_load_call st215.sub (hc5.up ((((((((((((((((le10.trans le16).trans le22).trans le30).trans le45).trans le50).trans le138).trans le144).trans le148).trans le154).trans le162).trans le170).trans le178).trans le184).trans le191).trans le198).trans le212)) X Tryz.isAgg24 Tryz.sizeOf24 X X<|v_load_call st215.sub (hc11.up (((((((((((((((le16.trans le22).trans le30).trans le45).trans le50).trans le138).trans le144).trans le148).trans le154).trans le162).trans le170).trans le178).trans le184).trans le191).trans le198).trans le212)) X Tryz.isAgg28 Tryz.sizeOf28 X X<|v_load_call st215.sub hc214 X Tryz.isAgg30 Tryz.sizeOf30 X X ?_
      have con := (c_stem_By st215.sub (t := t) (t_f0.up (((((((((((((((((le4.trans le10).trans le16).trans le22).trans le30).trans le45).trans le50).trans le138).trans le144).trans le148).trans le154).trans le162).trans le170).trans le178).trans le184).trans le191).trans le198).trans le212)) (x := x) (x_f0.up (((((((((((((((((le4.trans le10).trans le16).trans le22).trans le30).trans le45).trans le50).trans le138).trans le144).trans le148).trans le154).trans le162).trans le170).trans le178).trans le184).trans le191).trans le198).trans le212)) (x_f1.up (((((((((((((((((le4.trans le10).trans le16).trans le22).trans le30).trans le45).trans le50).trans le138).trans le144).trans le148).trans le154).trans le162).trans le170).trans le178).trans le184).trans le191).trans le198).trans le212)) (p := p) (K0.up (((((((((((((((((le4.trans le10).trans le16).trans le22).trans le30).trans le45).trans le50).trans le138).trans le144).trans le148).trans le154).trans le162).trans le170).trans le178).trans le184).trans le191).trans le198).trans le212)))
      rw [askE_eq hx0 hp0] at con
      refine O st215 X X X Tryz.call22 X con ?_
      intro r216 w217 h218 le219 st220 q221
      obtain rfl := q221
      clear con
      refine v_mvT X X<|v_extract (v := (.int _ _)) X X X<|v_extract (v := (.int _ _)) X X X<|v_asI X X<|v_asI X X<|M<|W.sr<|v_load_call st220.sub (hc5.up (((((((((((((((((le10.trans le16).trans le22).trans le30).trans le45).trans le50).trans le138).trans le144).trans le148).trans le154).trans le162).trans le170).trans le178).trans le184).trans le191).trans le198).trans le212).trans le219)) X Tryz.isAgg24 Tryz.sizeOf24 X X<|v_load_call st220.sub (hc47.up ((((((((((((le50.trans le138).trans le144).trans le148).trans le154).trans le162).trans le170).trans le178).trans le184).trans le191).trans le198).trans le212).trans le219)) X Tryz.isAgg28 Tryz.sizeOf28 X X<|v_load_call st220.sub (hc214.up le219) X Tryz.isAgg30 Tryz.sizeOf30 X X ?_
      have con := (c_stem_By st220.sub (t := t) (t_f0.up ((((((((((((((((((le4.trans le10).trans le16).trans le22).trans le30).trans le45).trans le50).trans le138).trans le144).trans le148).trans le154).trans le162).trans le170).trans le178).trans le184).trans le191).trans le198).trans le212).trans le219)) (x := (Lexicon.mk (((x)).rules) ds)) (f145.up (((((((((le148.trans le154).trans le162).trans le170).trans le178).trans le184).trans le191).trans le198).trans le212).trans le219)) (f149.up ((((((((le154.trans le162).trans le170).trans le178).trans le184).trans le191).trans le198).trans le212).trans le219)) (p := p) (K0.up ((((((((((((((((((le4.trans le10).trans le16).trans le22).trans le30).trans le45).trans le50).trans le138).trans le144).trans le148).trans le154).trans le162).trans le170).trans le178).trans le184).trans le191).trans le198).trans le212).trans le219)))
      rw [askE_eq hy0 hp0, ask_perm (y := ⟨x.rules, ds⟩) hx0 rfl hdp hp0] at con
      refine O st220 X X X Tryz.call22 X con ?_
      intro r222 w223 h224 le225 st226 q227
      obtain rfl := q227
      clear con
      refine v_mvT X X<|v_extract (v := (.int _ _)) X X X<|v_extract (v := (.int _ _)) X X X<|v_asI X X<|v_asI X X<|M<|W.sr<|v_mvI X X<|v_neq X X X<|v_mvB X X<|Y X X (d := 151) X<|v_mvI X X<|Y X X (d := 151) X<|v_neq X X X<|v_pickF (v := (.bool _)) X X X<|v_mvB X X<|Y X X (d := 155) X<|v_mvI X X<|Y X X (d := 155) X<|v_mvI X X<|Y X X (d := 155) X<|v_neq X X X<|v_pickF (v := (.bool _)) X X X<|M ?_
      refine zh rfl (fun c228 => ?_) (fun c228 => ?_)
      ·
       replace c228 := of_decide_eq_true c228
       exfalso
       have sure_ : (decide (((askR (t) (x) (p)).number) ≠ ((askR t x p).number))) = false := by simp
       exact of_decide_eq_false sure_ c228
      ·
       replace c228 := of_decide_eq_false c228
       refine zo<|zt<|U<|zg<|v_add X X t_om X<|v_mvI X X<|M ?_
       refine ⟨⟨k + 1, h224⟩, ⟨rfl, trivial⟩, ?_, ⟨(((le198.trans le212).trans le219).trans le225), st226.take 3, ?_⟩, ?_⟩
       ·exact zU
       ·first | omega | (simp; omega)
       ·show (placesT t).length - ((k + 1)) < (placesT t).length - k
        omega
     ·
      replace c201 := of_decide_eq_false c201
      refine zS<|zi<|zi<|zM<|U<|W.sr<|v_load_call st199.sub (hc5.up (((((((((((((((le10.trans le16).trans le22).trans le30).trans le45).trans le50).trans le138).trans le144).trans le148).trans le154).trans le162).trans le170).trans le178).trans le184).trans le191).trans le198)) X Tryz.isAgg24 Tryz.sizeOf24 X X<|v_load_call st199.sub (hc11.up ((((((((((((((le16.trans le22).trans le30).trans le45).trans le50).trans le138).trans le144).trans le148).trans le154).trans le162).trans le170).trans le178).trans le184).trans le191).trans le198)) X Tryz.isAgg28 Tryz.sizeOf28 X X ?_
      have con := (c_stem_Homographs st199.sub (t := t) (t_f0.up ((((((((((((((((le4.trans le10).trans le16).trans le22).trans le30).trans le45).trans le50).trans le138).trans le144).trans le148).trans le154).trans le162).trans le170).trans le178).trans le184).trans le191).trans le198)) (x := x) (x_f0.up ((((((((((((((((le4.trans le10).trans le16).trans le22).trans le30).trans le45).trans le50).trans le138).trans le144).trans le148).trans le154).trans le162).trans le170).trans le178).trans le184).trans le191).trans le198)) (x_f1.up ((((((((((((((((le4.trans le10).trans le16).trans le22).trans le30).trans le45).trans le50).trans le138).trans le144).trans le148).trans le154).trans le162).trans le170).trans le178).trans le184).trans le191).trans le198)) (K0.up ((((((((((((((((le4.trans le10).trans le16).trans le22).trans le30).trans le45).trans le50).trans le138).trans le144).trans le148).trans le154).trans le162).trans le170).trans le178).trans le184).trans le191).trans le198)))
      rw [hx0] at con
      refine O st199 X X X Tryz.call28 X con ?_
      intro r229 w230 h231 le232 st233 q234
      obtain ⟨v235, rfl, f236⟩ := q234
      have f236_b := f236.le
      clear con
      refine v_mvT X X<|v_extract (v := v235) X X X<|v_extract (v := (.int _ _)) X X X<|v_assign (v := v235) X X<|v_asI X X<|M<|W.sr<|v_load_call st233.sub (hc5.up ((((((((((((((((le10.trans le16).trans le22).trans le30).trans le45).trans le50).trans le138).trans le144).trans le148).trans le154).trans le162).trans le170).trans le178).trans le184).trans le191).trans le198).trans le232)) X Tryz.isAgg24 Tryz.sizeOf24 X X<|v_load_call st233.sub (hc47.up (((((((((((le50.trans le138).trans le144).trans le148).trans le154).trans le162).trans le170).trans le178).trans le184).trans le191).trans le198).trans le232)) X Tryz.isAgg28 Tryz.sizeOf28 X X ?_
      have con := (c_stem_Homographs st233.sub (t := t) (t_f0.up (((((((((((((((((le4.trans le10).trans le16).trans le22).trans le30).trans le45).trans le50).trans le138).trans le144).trans le148).trans le154).trans le162).trans le170).trans le178).trans le184).trans le191).trans le198).trans le232)) (x := (Lexicon.mk (((x)).rules) ds)) (f145.up ((((((((le148.trans le154).trans le162).trans le170).trans le178).trans le184).trans le191).trans le198).trans le232)) (f149.up (((((((le154.trans le162).trans le170).trans le178).trans le184).trans le191).trans le198).trans le232)) (K0.up (((((((((((((((((le4.trans le10).trans le16).trans le22).trans le30).trans le45).trans le50).trans le138).trans le144).trans le148).trans le154).trans le162).trans le170).trans le178).trans le184).trans le191).trans le198).trans le232)))
      rw [hy0, hom_perm (y := ⟨x.rules, ds⟩) hx0 rfl hdp] at con
      refine O st233 X X X Tryz.call28 X con ?_
      intro r237 w238 h239 le240 st241 q242
      obtain ⟨v243, rfl, f244⟩ := q242
      have f244_b := f244.le
      clear con
      refine v_mvT X X<|v_extract (v := v243) X X X<|v_extract (v := (.int _ _)) X X X<|v_assign (v := v243) X X<|v_asI X X<|M<|W.sr<|v_load_call st241.sub (hc5.up (((((((((((((((((le10.trans le16).trans le22).trans le30).trans le45).trans le50).trans le138).trans le144).trans le148).trans le154).trans le162).trans le170).trans le178).trans le184).trans le191).trans le198).trans le232).trans le240)) X Tryz.isAgg24 Tryz.sizeOf24 X X<|v_load_call st241.sub (hc11.up ((((((((((((((((le16.trans le22).trans le30).trans le45).trans le50).trans le138).trans le144).trans le148).trans le154).trans le162).trans le170).trans le178).trans le184).trans le191).trans le198).trans le232).trans le240)) X Tryz.isAgg28 Tryz.sizeOf28 X X ?_
      have con := (c_stem_Standing st241.sub (t := t) (t_f0.up ((((((((((((((((((le4.trans le10).trans le16).trans le22).trans le30).trans le45).trans le50).trans le138).trans le144).trans le148).trans le154).trans le162).trans le170).trans le178).trans le184).trans le191).trans le198).trans le232).trans le240)) (x := x) (x_f0.up ((((((((((((((((((le4.trans le10).trans le16).trans le22).trans le30).trans le45).trans le50).trans le138).trans le144).trans le148).trans le154).trans le162).trans le170).trans le178).trans le184).trans le191).trans le198).trans le232).trans le240)) (x_f1.up ((((((((((((((((((le4.trans le10).trans le16).trans le22).trans le30).trans le45).trans le50).trans le138).trans le144).trans le148).trans le154).trans le162).trans le170).trans le178).trans le184).trans le191).trans le198).trans le232).trans le240)) (K0.up ((((((((((((((((((le4.trans le10).trans le16).trans le22).trans le30).trans le45).trans le50).trans le138).trans le144).trans le148).trans le154).trans le162).trans le170).trans le178).trans le184).trans le191).trans le198).trans le232).trans le240)))
      rw [hx0] at con
      refine O st241 X X X Tryz.call18 X con ?_
      intro r245 w246 h247 le248 st249 q250
      obtain ⟨v251, rfl, f252⟩ := q250
      have f252_b := f252.le
      clear con
      refine v_mvT X X<|v_extract (v := v251) X X X<|v_extract (v := (.int _ _)) X X X<|v_assign (v := v251) X X<|v_asI X X<|M<|W.sr<|v_load_call st249.sub (hc5.up ((((((((((((((((((le10.trans le16).trans le22).trans le30).trans le45).trans le50).trans le138).trans le144).trans le148).trans le154).trans le162).trans le170).trans le178).trans le184).trans le191).trans le198).trans le232).trans le240).trans le248)) X Tryz.isAgg24 Tryz.sizeOf24 X X<|v_load_call st249.sub (hc47.up (((((((((((((le50.trans le138).trans le144).trans le148).trans le154).trans le162).trans le170).trans le178).trans le184).trans le191).trans le198).trans le232).trans le240).trans le248)) X Tryz.isAgg28 Tryz.sizeOf28 X X ?_
      have con := (c_stem_Standing st249.sub (t := t) (t_f0.up (((((((((((((((((((le4.trans le10).trans le16).trans le22).trans le30).trans le45).trans le50).trans le138).trans le144).trans le148).trans le154).trans le162).trans le170).trans le178).trans le184).trans le191).trans le198).trans le232).trans le240).trans le248)) (x := (Lexicon.mk (((x)).rules) ds)) (f145.up ((((((((((le148.trans le154).trans le162).trans le170).trans le178).trans le184).trans le191).trans le198).trans le232).trans le240).trans le248)) (f149.up (((((((((le154.trans le162).trans le170).trans le178).trans le184).trans le191).trans le198).trans le232).trans le240).trans le248)) (K0.up (((((((((((((((((((le4.trans le10).trans le16).trans le22).trans le30).trans le45).trans le50).trans le138).trans le144).trans le148).trans le154).trans le162).trans le170).trans le178).trans le184).trans le191).trans le198).trans le232).trans le240).trans le248)))
      rw [hy0, standN_perm (y := ⟨x.rules, ds⟩) hx0 rfl hdp] at con
      refine O st249 X X X Tryz.call18 X con ?_
      intro r253 w254 h255 le256 st257 q258
      obtain ⟨v259, rfl, f260⟩ := q258
      have f260_b := f260.le
      clear con
      refine v_mvT X X<|v_extract (v := v259) X X X<|v_extract (v := (.int _ _)) X X X<|v_assign (v := v259) X X<|v_asI X X<|M<|W.sr<|v_mvB X X<|v_mvB X X<|Y X X (d := 186) X<|v_mvI X X<|Y X X (d := 186) X<|v_eql X X X<|v_pickT (v := (.bool _)) X X X<|v_mvB X X<|Y X X (d := 190) X<|v_mvI X X<|Y X X (d := 190) X<|v_eql X X X<|v_pickT (v := (.bool _)) X X X<|v_mvB X X<|Y X X (d := 194) X<|v_move (v := v235) X X<|Y X X (d := 194) X<|v_move (v := v243) X X<|Y X X (d := 194) X ?_
      have con := (c_postilref01_SameWords st257.sub (f236.up ((le240.trans le248).trans le256)) (f244.up (le248.trans le256)))
      rw [show decide (homR t x = homR t x) = true from decide_eq_true rfl] at con
      refine O st257 X X X Tryz.call29 X con ?_
      intro r261 w262 h263 le264 st265 q266
      obtain rfl := q266
      clear con
      refine v_pickT (v := (.bool _)) X X X<|v_mvB X X<|Y X X (d := 199) X<|v_mvI X X<|Y X X (d := 199) X<|v_eql X X X<|v_pickT (v := (.bool _)) X X X<|v_mvB X X<|Y X X (d := 203) X<|v_mvI X X<|Y X X (d := 203) X<|v_eql X X X<|v_pickT (v := (.bool _)) X X X<|v_mvB X X<|Y X X (d := 207) X<|v_move (v := v251) X X<|Y X X (d := 207) X<|v_move (v := v259) X X<|Y X X (d := 207) X ?_
      have con := (c_postillaw04_sameInts st265.sub (f252.up (le256.trans le264)) (f260.up le264))
      rw [show decide (standingN t x = standingN t x) = true from decide_eq_true rfl] at con
      refine O st265 X X X Tryz.call27 X con ?_
      intro r267 w268 h269 le270 st271 q272
      obtain rfl := q272
      clear con
      refine v_pickT (v := (.bool _)) X X X<|v_asB X X<|M<|zq<|za Tryz.results4 ?_
      refine ⟨h269, _, rfl, st271.done, ?_⟩
      refine zj ?_
      simp_all
end Go.Pk
