/- A PART OF THE PROOF: contracts of functions, each walked once (much of it printed by a program of the author's own). -/
import Derived.Test.YtfpiiheehdedmaaGreatDoorT12
import Derived.Test.YtfpiiheehdedmaaGreatDoorT3
import Derived.Test.YtfpiiheehdedmaaGreatDoorT2
import Derived.Test.YtfpiiheehdedmaaGreatDoorT8
import Derived.Test.YtfpiiheehdedmaaGreatDoorT5
import Derived.Test.YtfpiiheehdedmaaGreatDoorT7
set_option linter.unusedSimpArgs false
set_option linter.unusedVariables false
namespace Go.Pk
open Go Go.RowKit Go.Proofs
set_option maxRecDepth 4000 in
theorem c_slices_Clone_Lint_int {h : Heap} {w : World} (hs : Sub h w) {s_v : Value} {s : (List Int)} (s_f : Sl LInt h s_v s) (hl : s.length * 8 ≤ 140737488355328) : Calls Tryz.prog 109 #[s_v] w (fun e_ w' => ∃ h' res_ o_, e_ = .returned res_ ∧ Le h h' ∧ St h w h' w' [o_] ∧ OSl LInt 3 h' res_ (s) o_) := by
 refine zz (n := 8) (args := [s_v]) Tryz.func109 X X X ?_
 have st0 : St h w h w [] := St.start hs
 have s_f_b := s_f.le
 refine W.sr<|v_asL X X<|Y<|zf<|W.sr<|v_move (v := s_v) X X ?_
 obtain ⟨nb1, hn2, hn2_r⟩ := Sl.nilb (P := Tryz.prog) s_f
 refine zk X X (hn2_r Tryz.underlying42 X X)<|Y ?_
 refine zh rfl (fun c3 => ?_) (fun c3 => ?_)
 ·
  refine W.sr<|v_asL X X<|Y<|zo<|E<|za Tryz.results109 ?_
  have st4 := st0.snoc
  have f5 := OSl.nil LInt 3 h
  refine ⟨h, _, _, rfl, Le.refl _, st4, OSl.to f5 ?_⟩
  simp_all
 ·
  refine zr<|U<|W.sr<|OpsL.sliceE (L := LInt) st0 X ⟨_, Tryz.sizeOf3⟩ Tryz.underlying42 ?_
  intro v6 o7 w8 f9 st10
  refine v_move (v := s_v) X X ?_
  refine zaf (k := 0) (nb := 8) st10 f9 rfl s_f rfl rfl rfl Tryz.underlying42 Tryz.info3 rfl rfl rfl (by decide) rfl t_om t_om ?_
  intro v11 o12 w13 _ e14 f15 st16
  subst e14
  refine v_assign (v := v11) X X<|Y<|zo<|za Tryz.results109 ?_
  refine ⟨h, _, _, rfl, Le.refl _, st16, OSl.to f15 ?_⟩
  simp
set_option maxRecDepth 4000 in
set_option maxHeartbeats 4000000 in
theorem c_vote_count_truths_1_1 : ∀ (n_ : Nat) {h0 h : Heap} {w0 w : World} {rest : Own} {now_v : Value} {now : (List Int)} (now_f : Sl LInt h now_v now) {left_v : Value} {left : (List Int)} (left_f : Sl LInt h left_v left) {p_b : Nat} {p : Poll} {p_v0 : Value} (p_f0 : Sl LChapter h p_v0 p.text.chapters) {p_v1 : Value} (p_f1 : Sl LRule h p_v1 p.lexicon.rules) {p_v2 : Value} (p_f2 : Sl LDecision h p_v2 p.lexicon.decisions) {p_v3 : Value} (p_f3 : Sl LQuestion h p_v3 p.questions) {p_v4 : Value} (p_f4 : Sl LVoter h p_v4 p.voters) (p_c : Cells h p_b 0 [p_v0, p_v1, p_v2, p_v3, p_v4]) {l : Nat} {y_b : Nat} (y_c : Cells h y_b 0 [.func (.yield l) #[] #[]]) {m_b : Nat} (m_c : Cells h m_b 0 [(.func (.func 128) #[] #[.pointer (some ⟨p_b, 0, none⟩), .pointer (some ⟨y_b, 0, none⟩), .pointer (some ⟨m_b, 0, none⟩)])]) {J Jx : List (List Int) → Heap → Own → Prop} (hJm : ∀ xs h1 h2 o, J xs h1 o → Le h1 h2 → J xs h2 o) (hJxm : ∀ xs h1 h2 o, Jx xs h1 o → Le h1 h2 → Jx xs h2 o) {done : List (List Int)} (hJ0 : J done h rest) (hY : ∀ pre x h1 w1 B rest us, Le h h1 → J pre h1 rest → St h0 w0 h1 w1 (B ++ rest) → (∃ u_, us = [u_] ∧ Sl LInt h1 u_ x ∧ (truthsL p)[pre.length]? = some x) → Yields Tryz.prog l us.toArray w1 fun v w2 => ∃ h2 rest2, Le h1 h2 ∧ St h0 w0 h2 w2 (B ++ rest2) ∧ ((v = .bool true ∧ J (pre ++ [x]) h2 rest2) ∨ (v = .bool false ∧ Jx (pre ++ [x]) h2 rest2))) (hp : pollB p = true) (hn : NowOk p now) (hw : OnWay p done now) (hm : p.questions.length ≤ now.length + n_) (hl : left = leftL p now) (st0 : St h0 w0 h w rest), Calls Tryz.prog 128 #[now_v, left_v, .pointer (some ⟨p_b, 0, none⟩), .pointer (some ⟨y_b, 0, none⟩), .pointer (some ⟨m_b, 0, none⟩)] w (fun e_ w' => ∃ h' rest' b_, e_ = .returned (.bool b_) ∧ Le h h' ∧ St h0 w0 h' w' rest' ∧ (b_ = true → J (done ++ truthsFrom p now) h' rest') ∧ (b_ = false → ∃ pre, Jx pre h' rest')) := by
 intro n_
 induction n_ using Nat.strongRecOn with
 | _ n_ ih_ =>
 intro h0 h w0 w rest now_v now now_f left_v left left_f p_b p p_v0 p_f0 p_v1 p_f1 p_v2 p_f2 p_v3 p_f3 p_v4 p_f4 p_c l y_b y_c m_b m_c J Jx hJm hJxm done hJ0 hY hp hn hw hm hl st0
 refine zz (n := 83) (args := [now_v, left_v, .pointer (some ⟨p_b, 0, none⟩), .pointer (some ⟨y_b, 0, none⟩), .pointer (some ⟨m_b, 0, none⟩)]) Tryz.func128 X X X ?_
 have now_f_b := now_f.le
 have left_f_b := left_f.le
 have p_f0_b := p_f0.le
 have p_f1_b := p_f1.le
 have p_f2_b := p_f2.le
 have p_f3_b := p_f3.le
 have p_f4_b := p_f4.le
 have st1 := St.start st0.sub
 have hnl := hn.len
 refine W.sr<|v_asB X X<|Y<|W.scope<|W.sr<|v_move (v := now_v) X X<|v_len now_f X Tryz.underlying42 X<|v_asI X X<|Y<|zf<|W.sr<|v_mvI X X<|v_field_addr X Tryz.underlying145 X Tryz.sizeOf32 X X<|v_field_addr X Tryz.underlying32 X Tryz.sizeOf29 X X<|v_load_cells1 (j := 3) st1.sub p_c X X X Tryz.isAgg29 X<|v_len p_f3 X Tryz.underlying29 X<|v_eql X X X<|Y ?_
 refine zh rfl (fun c2 => ?_) (fun c2 => ?_)
 ·
  replace c2 := of_decide_eq_true c2
  refine W.sr<|v_load_cells1 (j := 0) st1.sub y_c X X X Tryz.isAgg111 X<|v_move (v := now_v) X X ?_
  have st11 := st0.over st1
  have hlq : now.length = p.questions.length := by omega
  have hone := truths_one hn hlq
  have hJc := hJm _ _ _ _ hJ0 (Le.refl _)
  have hAc : ∃ u_, [now_v] = [u_] ∧ Sl LInt h u_ now ∧ (truthsL p)[done.length]? = some now := ⟨_, rfl, now_f.up (Le.refl _), onway_at hw hone⟩
  refine OpsL.yieldsJ rfl rfl rfl rfl rfl (hY _ _ _ _ [] rest _ (Le.refl _) hJc st11 hAc) ?_
  intro yb3 w4 h5 rest6 le7 st8 hj9 hx10
  refine v_asB X X<|Y<|zo<|E<|NoGo.ret<|za Tryz.results128 ?_
  exact ⟨_, _, _, rfl, le7, st8, fun e_ => by rw [hone]; exact hj9 e_, fun e_ => ⟨_, hx10 e_⟩⟩
 ·
  replace c2 := of_decide_eq_false c2
  refine zr<|U<|zf<|W.label<|U<|zf<|W.sr<|v_field_addr X Tryz.underlying145 X Tryz.sizeOf32 X X<|v_field_addr X Tryz.underlying32 X Tryz.sizeOf29 X X<|v_load_cells1 (j := 3) st1.sub p_c X X X Tryz.isAgg29 X<|v_mvI X X ?_
  have hq : ∃ y_, (p.questions)[now.length]? = some y_ := ⟨_, List.getElem?_eq_getElem (by omega)⟩
  obtain ⟨q, hq⟩ := hq
  obtain ⟨b12, o13, _, he15, hc14, hr_q⟩ := Sl.elem p_f3 hq
  obtain ⟨v16, rfl, f17⟩ := hr_q
  have f17_b := f17.le
  refine zk rfl rfl (zE he15 rfl rfl (hk := (show _ = ((now.length : Nat) : Int) by rfl)) (hu := Tryz.underlying29) (hz := Tryz.sizeOf84)) ?_
  refine v_field_addr X Tryz.underlying84 X Tryz.sizeOf82 X X<|v_load_cells1 (j := 3) st1.sub hc14 X X X Tryz.isAgg82 X<|v_len f17 X Tryz.underlying82 X<|v_mvI X X<|Y<|zs ?_
  have st18 := st0.over st1
  refine zG [7, 9, 10, 11, 12, 32, 33, 34, 35, 36, 37, 38, 39, 40, 41, 42, 43, 44, 45, 46, 47, 48, 49, 50, 51, 52, 53, 54, 55, 56, 57, 58, 59, 60, 61, 62, 63, 64, 65, 66, 67, 68, 69, 70, 71, 72, 73, 74, 75, 76, 77, 78, 79, 80, 81, 82] (G := Nat × Own × Heap) (fun ⟨hh, rest, h19⟩ => [(32, .int .i64 (hh : Int))]) (fun ⟨hh, rest, h19⟩ w' => Le h h19 ∧ St h0 w0 h19 w' (rest) ∧ (hh ≤ q.heads.length) ∧ (J (done ++ truthsK p now hh) h19 rest)) (fun ⟨hh, rest, h19⟩ => q.heads.length - hh) ⟨0, rest, h⟩ ⟨rfl, trivial⟩ ⟨Le.refl _, st18, zK, (by simpa [truthsK] using hJm _ _ _ _ hJ0 (Le.refl _))⟩ ?_
  rintro ⟨hh, rest, h19⟩ _ w22 ⟨le20, st21, hhl, hJ⟩
  have st23 := St.start st21.sub
  refine W.sr<|v_lss X X X<|Y<|zf ?_
  refine zh rfl (fun c24 => ?_) (fun c24 => ?_)
  ·
   replace c24 := of_decide_eq_true c24
   refine zr<|U<|zf<|zs<|W.sr<|v_mvI X X<|v_asI X X<|Y<|W.sr<|v_move (v := left_v) X X ?_
   refine zX rfl rfl (zT rfl Tryz.call109 rfl) ((c_slices_Clone_Lint_int st23.sub (left_f.up le20) (by have q_ := poll_len hp; rw [hl, leftL_len]; omega)).mono ?_)
   rintro _ w26 ⟨h27, v25, o30, rfl, le28, s32, f31⟩
   refine ⟨_, rfl, ?_⟩
   have st29 := st23.call s32
   refine v_assign (v := v25) X X<|Y<|zf<|W.sr<|v_field_addr X Tryz.underlying145 X Tryz.sizeOf32 X X<|v_field_addr X Tryz.underlying32 X Tryz.sizeOf30 X X<|v_load_cells1 (j := 4) st29.sub (p_c.up (le20.trans le28)) X X X Tryz.isAgg30 X<|v_len (p_f4.up (le20.trans le28)) X Tryz.underlying30 X<|v_mvI X X<|Y<|zs ?_
   refine zG [11, 12, 41, 42, 43, 44, 45, 46, 47, 48, 49, 50, 51, 52, 53, 54, 55, 56, 57, 58, 59, 60, 61, 62, 63, 64, 65, 66, 67, 68, 69, 70, 71, 72] (G := Nat × List (Nat × Obj) × Heap) (fun ⟨i, o_10, h33⟩ => [(41, .int .i64 (i : Int))]) (fun ⟨i, o_10, h33⟩ w' => Le h27 h33 ∧ St h19 w22 h33 w' [o_10] ∧ (OSl LInt 3 h33 v25 ((leftM p now (hh : Int) i)) o_10) ∧ (i ≤ p.voters.length) ∧ (∀ v ∈ p.voters.take i, (wrongN v (now ++ [(hh : Int)]) : Int) ≤ v.wrong)) (fun ⟨i, o_10, h33⟩ => p.voters.length - i) ⟨0, o30, h27⟩ ⟨rfl, trivial⟩ ⟨Le.refl _, st29, (OSl.to f31 (by rw [leftM_zero]; exact hl)), zK, (by intro v_ hv_; simp at hv_)⟩ ?_
   rintro ⟨i, o_10, h33⟩ _ w36 ⟨le34, st35, hO_10, hi, hwr⟩
   refine W.sr<|v_lss X X X<|Y<|zf ?_
   refine zh rfl (fun c37 => ?_) (fun c37 => ?_)
   ·
    replace c37 := of_decide_eq_true c37
    refine zr<|U<|zf<|zs<|W.sr<|v_mvI X X ?_
    have hv : ∃ y_, (p.voters)[i]? = some y_ := ⟨_, List.getElem?_eq_getElem (by omega)⟩
    obtain ⟨v, hv⟩ := hv
    obtain ⟨b38, o39, _, he41, hc40, hr_v⟩ := Sl.elem (p_f4.up ((le20.trans le28).trans le34)) hv
    obtain ⟨v42, rfl, f43⟩ := hr_v
    have f43_b := f43.le
    refine v_index_el he41 X X (hk := X) (hu := Tryz.underlying30) (hz := Tryz.sizeOf79) X<|v_load_call st35.sub hc40 X Tryz.isAgg79 Tryz.sizeOf79 X X<|zD st35 Tryz.zeroValue79 X X ?_
    intro b44 w45 st46
    refine v_asI X X<|zC st46 (k := 1) X X X (zp X (zp X (zp f43.one zQ))) Tryz.sizeOf79 X X X ?_
    intro w47 st48
    obtain ⟨h49, le50, hb51, st53⟩ := st48.freeze (k := 1) rfl
    have hc52 := Cells.of hb51
    refine Y<|zf<|W.sr<|v_field_addr X Tryz.underlying79 X Tryz.sizeOf42 X X<|v_load_cells1 (j := 2) st53.sub hc52 X X X Tryz.isAgg42 X<|v_mvI X X ?_
    have ha : ∃ y_, (v.votes)[now.length]? = some y_ := ⟨_, List.getElem?_eq_getElem (by have q_ := (poll_voter hp (List.mem_of_getElem? hv)).2.2.1; omega)⟩
    obtain ⟨a, ha⟩ := ha
    obtain ⟨b54, o55, _, he57, hc56, hr_a⟩ := Sl.elem (f43.up le50) ha
    obtain rfl := hr_a
    refine zk rfl rfl (zE he57 rfl rfl (hk := (show _ = ((now.length : Nat) : Int) by rfl)) (hu := Tryz.underlying42) (hz := Tryz.sizeOf3)) ?_
    refine v_load_cells1 (j := 0) st53.sub hc56 X X X Tryz.isAgg3 X<|v_lss X X X<|v_mvB X X ?_
    refine zx (d := 52) rfl (fun g58 => ?_) (fun g58 => ?_)
    ·
     replace g58 := of_decide_eq_true g58
     refine Z X X X X X<|Z X X X X X<|Z X X X X X<|Z X X X X X<|Z X X X X X<|Z X X X X X<|Z X X X X X<|v_pickT (v := (.bool _)) X X X<|Y ?_
     refine zh rfl (fun c59 => ?_) (fun c59 => ?_)
     ·
      refine zL<|ze<|zF<|U<|zg<|v_add X X t_om X<|v_mvI X X<|Y ?_
      refine ⟨⟨i + 1, o_10, h49⟩, ⟨rfl, trivial⟩, ?_, ⟨(le34.trans le50), st53.take 1, ?_, ?_, ?_⟩, ?_⟩
      ·exact zH
      ·refine OSl.to (hO_10.up le50) ?_
       exact (leftM_skip hv ha (.inl (by assumption))).symm
      ·first | omega | (simp; omega)
      ·exact all_snoc hwr hv (left_skip hn (List.mem_of_getElem? hv) ha (.inl (by assumption)))
      ·show p.voters.length - ((i + 1)) < p.voters.length - i
       omega
     ·
      cases c59
    ·
     replace g58 := of_decide_eq_false g58
     refine M X X (d := 52) X<|v_field_addr X Tryz.underlying79 X Tryz.sizeOf42 X X<|M X X (d := 52) X<|v_load_cells1 (j := 2) st53.sub hc52 X X X Tryz.isAgg42 X<|M X X (d := 52) X<|v_mvI X X<|M X X (d := 52) X ?_
     refine zk rfl rfl (zE he57 rfl rfl (hk := (show _ = ((now.length : Nat) : Int) by rfl)) (hu := Tryz.underlying42) (hz := Tryz.sizeOf3)) ?_
     refine M X X (d := 52) X<|v_load_cells1 (j := 0) st53.sub hc56 X X X Tryz.isAgg3 X<|M X X (d := 52) X<|v_mvI X X<|M X X (d := 52) X<|v_eql X X X<|v_pickF (v := (.bool _)) X X X<|Y ?_
     refine zh rfl (fun c60 => ?_) (fun c60 => ?_)
     ·
      replace c60 := of_decide_eq_true c60
      refine zL<|ze<|zF<|U<|zg<|v_add X X t_om X<|v_mvI X X<|Y ?_
      refine ⟨⟨i + 1, o_10, h49⟩, ⟨rfl, trivial⟩, ?_, ⟨(le34.trans le50), st53.take 1, ?_, ?_, ?_⟩, ?_⟩
      ·exact zH
      ·refine OSl.to (hO_10.up le50) ?_
       exact (leftM_skip hv ha (.inr (by assumption))).symm
      ·first | omega | (simp; omega)
      ·exact all_snoc hwr hv (left_skip hn (List.mem_of_getElem? hv) ha (.inr (by assumption)))
      ·show p.voters.length - ((i + 1)) < p.voters.length - i
       omega
     ·
      replace c60 := of_decide_eq_false c60
      refine zr<|U<|W.sr<|v_move (v := v25) X X<|v_mvI X X ?_
      have hx : ∃ y_, ((leftM p now (hh : Int) i))[i]? = some y_ := ⟨_, List.getElem?_eq_getElem (by rw [leftM_len]; omega)⟩
      obtain ⟨x, hx⟩ := hx
      obtain ⟨b61, o62, cur63, _, e66, he64, hr_x, hc65⟩ := OSl.elem (hO_10.up le50) hx
      subst e66
      obtain rfl := hr_x
      refine v_index_el he64 X X (hk := X) (hu := Tryz.underlying42) (hz := Tryz.sizeOf3) X<|zk X X (r_load_cur1 (j := 0) (st53.get (k := 0) X) hc65 X X X Tryz.isAgg3) ?_
      refine zk rfl rfl (r_sub rfl rfl (by have q_ := left_bound hp hn (List.mem_of_getElem? hv); have q2_ := left_at hv hx; omega)) ?_
      obtain ⟨b67, o68, cur69, _, e72, he70, hr_x, hc71⟩ := OSl.elem (hO_10.up le50) hx
      obtain ⟨hb73, hc74⟩ : b61 = b67 ∧ cur63 = cur69 := by cases e72; exact ⟨rfl, rfl⟩
      subst hb73
      subst hc74
      obtain rfl := hr_x
      refine v_index_el he70 X X (hk := X) (hu := Tryz.underlying42) (hz := Tryz.sizeOf3) X ?_
      refine OpsL.storeEl1 (k := 0) st53 (hO_10.up le50) rfl (by rw [leftM_len]; omega) he70 rfl rfl (rfl) Tryz.sizeOf3 ?_
      intro o75 w76 _ e77 f78 st79
      subst e77
      refine Y<|W.sr<|v_move (v := v25) X X<|v_mvI X X ?_
      have hz : ∃ y_, (((leftM p now (hh : Int) i).set i (x - 1)))[i]? = some y_ := ⟨_, List.getElem?_eq_getElem (by simp only [List.length_set, leftM_len]; omega)⟩
      obtain ⟨z, hz⟩ := hz
      obtain ⟨b80, o81, cur82, _, e85, he83, hr_z, hc84⟩ := OSl.elem f78 hz
      subst e85
      obtain rfl := hr_z
      refine v_index_el he83 X X (hk := X) (hu := Tryz.underlying42) (hz := Tryz.sizeOf3) X<|zk X X (r_load_cur1 (j := 0) (st79.get (k := 0) X) hc84 X X X Tryz.isAgg3)<|v_lss X X X<|Y ?_
      refine zh rfl (fun c86 => ?_) (fun c86 => ?_)
      ·
       replace c86 := of_decide_eq_true c86
       refine zL<|Blk.miss X<|ze<|ze<|Blk.miss X<|ze<|zF<|U<|zg<|v_add X X t_om X<|v_mvI X X<|Y ?_
       have st87 := st21.over st79
       refine ⟨⟨hh + 1, rest, h49⟩, ⟨rfl, trivial⟩, ?_, ⟨(((le20.trans le28).trans le34).trans le50), st87, ?_, ?_⟩, ?_⟩
       ·exact zH
       ·first | omega | (simp; omega)
       ·rw [truthsK_succ, truthsFrom_none (List.mem_of_getElem? hv) (left_neg ha (by omega) (by first | assumption | omega) (by rw [← left_at hv hx]; exact set_at hz) c86), List.append_nil]; exact hJm _ _ _ _ hJ ((le28.trans le34).trans le50)
       ·show q.heads.length - ((hh + 1)) < q.heads.length - hh
        omega
      ·
       replace c86 := of_decide_eq_false c86
       refine zr<|zw<|U<|zg<|v_add X X t_om X<|v_mvI X X<|Y ?_
       refine ⟨⟨i + 1, [(b80, .cells cur82 3)], h49⟩, ⟨rfl, trivial⟩, ?_, ⟨(le34.trans le50), st79.take 1, ?_, ?_, ?_⟩, ?_⟩
       ·exact zH
       ·refine OSl.to f78 ?_
        rw [left_at hv hx]; exact (leftM_less hv ha (by assumption) (by assumption)).symm
       ·first | omega | (simp; omega)
       ·exact all_snoc hwr hv (left_pos ha (by assumption) (by assumption) (by rw [← left_at hv hx]; exact set_at hz) c86)
       ·show p.voters.length - ((i + 1)) < p.voters.length - i
        omega
   ·
    replace c37 := of_decide_eq_false c37
    refine zL<|ze<|ze<|zF<|U<|zf ?_
    have st88 : St h0 w0 h33 _ (o_10 :: rest) := st21.keep st35
    refine zad (er := ([], [], [], [], 0)) (dsts := [73, 74, 75, 76, 77, 78, 79, 80, 81]) st88 Tryz.mixed<|zq 0 [] X t_kr t_kr X X (fun hD wD τD hL hS hO  => (zc (j := 0) (hL.sub hS) (m_c.up ((le20.trans le28).trans le34)) X X X Tryz.isAgg47))<|zq 1 [] X t_kr t_kr X X (fun hD wD τD hL hS hO  => (r_move (v := now_v) X))<|Drw.ch<|zq 3 [] X t_kr t_kr X X (fun hD wD τD hL hS hO  => (r_mvI X)) ?_
    refine zJ 4 (.res (fun h' res_ => Sl LInt h' res_ ([(hh : Int)])) (fun _ _ _ hl f => f.up hl)) [0] rfl t_kr t_kr ?_ ?_
    ·
     intro hD wD τD hL hS hO _ _
     have st89 := St.start hS
     refine zN (L := LInt) (xs := [(hh : Int)]) (cs := [.int .i64 (hh : Int)]) st89 (Enc.cons (L := LInt) (vs := [.int .i64 (hh : Int)]) (x := (hh : Int)) (h := hD) (X) Enc.nil) X X X Tryz.underlying42 Tryz.info3 X X X t_kr ?_
     intro v90 w91 h94 le95 f92 st93
     exact zt ⟨_, _, rfl, st93, _, rfl, f92⟩
    refine Drw.ch<|zq 6 [] X t_kr t_kr X X (fun hD wD τD hL hS hO  => (r_move (v := v25) X))<|Drw.ch<|Drw.ch<|Drw.nil X X X X X X ⟨t_kr, X, t_kr, X, t_kr, X, X, t_kr, (cx_cons X (cx_cons X (cx_cons X (cx_cons X cx_nil))))⟩ ?_
    intro hE97 w98 _ le99 st100 _ _
    refine zX rfl rfl (zT rfl Tryz.call109 rfl) ((c_slices_Clone_Lint_int st100.sub (now_f.up (((le20.trans le28).trans le34).trans le99)) (by have q_ := poll_len hp; omega)).mono ?_)
    rintro _ w102 ⟨h103, v101, o106, rfl, le104, s108, f107⟩
    refine ⟨_, rfl, ?_⟩
    have st105 := st100.call s108
    have st109 : St h0 w0 h103 _ (o_10 :: o106 :: rest) := St.mid (A := [o_10]) st105
    refine zt ⟨_, rfl, _, _, le104, st109, ?_⟩
    intro hE111 w112 _ le113 st114 gv4_0x110 gf4_0x110
    refine zaf (k := 1) (nb := 8) st114 (f107.up le113) rfl gf4_0x110 rfl rfl rfl Tryz.underlying42 Tryz.info3 rfl rfl rfl (by decide) rfl (by first | omega | (simp only [leftM_len, leftL_len, List.length_append, List.length_cons, List.length_nil]; have q_ := poll_len hp; omega)) (by first | omega | (simp only [leftM_len, leftL_len, List.length_append, List.length_cons, List.length_nil]; have q_ := poll_len hp; omega)) ?_
    intro v115 o116 w117 _ e118 f119 st120
    subst e118
    refine zt ⟨_, rfl, _, _, Le.refl _, st120, ?_⟩
    intro hE122 w123 _ le124 st125 _ _ _ _
    obtain ⟨h126, le127, f128, st129⟩ := OSl.freeze (k := 1) st125 (f119.up le124) rfl (by first | omega | (simp only [leftM_len, leftL_len, List.length_append, List.length_cons, List.length_nil]; have q_ := poll_len hp; omega))
    obtain ⟨h130, le131, f132, st133⟩ := OSl.freeze (k := 0) st129 (hO_10.up ((((le99.trans le104).trans le113).trans le124).trans le127)) rfl (by first | omega | (simp only [leftM_len, leftL_len, List.length_append, List.length_cons, List.length_nil]; have q_ := poll_len hp; omega))
    have f134 := Sl.to f132 (show _ = leftL p (now ++ [(hh : Int)]) from leftM_all now _ (by omega))
    have st136 := st133.tl.tl
    refine zX rfl rfl (zac (fs := []) (cs := [.pointer (some ⟨p_b, 0, none⟩), .pointer (some ⟨y_b, 0, none⟩), .pointer (some ⟨m_b, 0, none⟩)]) rfl rfl Tryz.call128 rfl) ((ih_ (n_ - 1) (by omega) (f128.up le131) f134 (p := p) (p_f0.up ((((((((le20.trans le28).trans le34).trans le99).trans le104).trans le113).trans le124).trans le127).trans le131)) (p_f1.up ((((((((le20.trans le28).trans le34).trans le99).trans le104).trans le113).trans le124).trans le127).trans le131)) (p_f2.up ((((((((le20.trans le28).trans le34).trans le99).trans le104).trans le113).trans le124).trans le127).trans le131)) (p_f3.up ((((((((le20.trans le28).trans le34).trans le99).trans le104).trans le113).trans le124).trans le127).trans le131)) (p_f4.up ((((((((le20.trans le28).trans le34).trans le99).trans le104).trans le113).trans le124).trans le127).trans le131)) (p_c.up ((((((((le20.trans le28).trans le34).trans le99).trans le104).trans le113).trans le124).trans le127).trans le131)) (y_c.up ((((((((le20.trans le28).trans le34).trans le99).trans le104).trans le113).trans le124).trans le127).trans le131)) (m_c.up ((((((((le20.trans le28).trans le34).trans le99).trans le104).trans le113).trans le124).trans le127).trans le131)) hJm hJxm (hJm _ _ _ _ hJ (((((((le28.trans le34).trans le99).trans le104).trans le113).trans le124).trans le127).trans le131)) (fun a_ b_ c_ d_ e_ f_ g_ l_ => hY a_ b_ c_ d_ e_ f_ g_ (((((((((le20.trans le28).trans le34).trans le99).trans le104).trans le113).trans le124).trans le127).trans le131).trans l_)) hp (now_snoc hn hq (by omega) (fun v_ hv_ => hwr v_ (by rw [List.take_of_length_le (by omega)]; exact hv_))) (onway_next hw hq (by omega)) (by simp only [List.length_append, List.length_cons, List.length_nil]; omega) rfl st136).mono ?_)
    rintro _ w137 ⟨h138, rest139, b140, rfl, le141, st142, hj143, hx144⟩
    refine ⟨_, rfl, ?_⟩
    refine zt ⟨_, rfl, _, _, ((le127.trans le131).trans le141), st142, ?_⟩
    intro hE146 w147 _ le148 st149 
    refine v_not X X ?_
    refine zt ⟨_, rfl, _, _, Le.refl _, st149, ?_⟩
    intro hE150 w151 _ le152 st153 _ _ _ _ _ _ gv4_0x154 gf4_0x154 _ _
    refine AllDeps.fin X<|U ?_
    refine zh rfl (fun c155 => ?_) (fun c155 => ?_)
    ·
     refine W.sr<|v_asB X X<|Y<|zo<|zn<|E<|E<|zn<|E<|NoGo.ret<|za Tryz.results128 ?_
     exact ⟨_, _, false, rfl, (((((((((((le20.trans le28).trans le34).trans le99).trans le104).trans le113).trans le124).trans le127).trans le131).trans le141).trans le148).trans le152), st153, fun e_ => (by cases e_), fun _ => (hx144 (by simpa using c155)).elim fun p_ q_ => ⟨p_, hJxm _ _ _ _ q_ (le148.trans le152)⟩⟩
    ·
     refine zr<|zw<|U<|zg<|v_add X X t_om X<|v_mvI X X<|Y ?_
     refine ⟨⟨hh + 1, rest139, hE150⟩, ⟨rfl, trivial⟩, ?_, ⟨(((((((((((le20.trans le28).trans le34).trans le99).trans le104).trans le113).trans le124).trans le127).trans le131).trans le141).trans le148).trans le152), st153, ?_, ?_⟩, ?_⟩
     ·exact zH
     ·first | omega | (simp; omega)
     ·rw [truthsK_succ, ← List.append_assoc]; exact hJm _ _ _ _ (hj143 (by simpa using c155)) (le148.trans le152)
     ·show q.heads.length - ((hh + 1)) < q.heads.length - hh
      omega
  ·
   replace c24 := of_decide_eq_false c24
   refine zL<|ze<|ze<|zF<|U<|W.sr<|v_asB X X<|Y<|zo<|NoGo.ret ?_
   have st156 := st21.over st23
   refine za Tryz.results128 ?_
   exact ⟨_, _, true, rfl, le20, st156, fun _ => by rw [truthsK_all hq (show q.heads.length = hh by omega)]; exact hJm _ _ _ _ hJ (Le.refl _), fun e_ => (by cases e_)⟩
set_option maxRecDepth 4000 in
theorem c_vote_count_truths_1 {h0 h : Heap} {w0 w : World} {rest : Own} {l : Nat} {p_b : Nat} {p : Poll} {p_v0 : Value} (p_f0 : Sl LChapter h p_v0 p.text.chapters) {p_v1 : Value} (p_f1 : Sl LRule h p_v1 p.lexicon.rules) {p_v2 : Value} (p_f2 : Sl LDecision h p_v2 p.lexicon.decisions) {p_v3 : Value} (p_f3 : Sl LQuestion h p_v3 p.questions) {p_v4 : Value} (p_f4 : Sl LVoter h p_v4 p.voters) (p_c : Cells h p_b 0 [p_v0, p_v1, p_v2, p_v3, p_v4]) {J Jx : List (List Int) → Heap → Own → Prop} (hJm : ∀ xs h1 h2 o, J xs h1 o → Le h1 h2 → J xs h2 o) (hJxm : ∀ xs h1 h2 o, Jx xs h1 o → Le h1 h2 → Jx xs h2 o) (hJ0 : J [] h rest) (hY : ∀ pre x h1 w1 B rest us, Le h h1 → J pre h1 rest → St h0 w0 h1 w1 (B ++ rest) → (∃ u_, us = [u_] ∧ Sl LInt h1 u_ x ∧ (truthsL p)[pre.length]? = some x) → Yields Tryz.prog l us.toArray w1 fun v w2 => ∃ h2 rest2, Le h1 h2 ∧ St h0 w0 h2 w2 (B ++ rest2) ∧ ((v = .bool true ∧ J (pre ++ [x]) h2 rest2) ∨ (v = .bool false ∧ Jx (pre ++ [x]) h2 rest2))) (hp : pollB p = true) (st0 : St h0 w0 h w rest) : Calls Tryz.prog 127 #[.func (.yield l) #[] #[], .pointer (some ⟨p_b, 0, none⟩)] w (fun e_ w' => ∃ h' rest' v_, e_ = .returned v_ ∧ Le h h' ∧ St h0 w0 h' w' rest' ∧ ((∃ xs, xs = truthsL p ∧ J xs h' rest') ∨ (∃ pre, Jx pre h' rest'))) := by
 refine zz (n := 31) (args := [.func (.yield l) #[] #[], .pointer (some ⟨p_b, 0, none⟩)]) Tryz.func127 X X X ?_
 have p_f0_b := p_f0.le
 have p_f1_b := p_f1.le
 have p_f2_b := p_f2.le
 have p_f3_b := p_f3.le
 have p_f4_b := p_f4.le
 have st1 := St.start st0.sub
 have hpl := poll_len hp
 refine W.sr<|zy st1 (v := (.func (.yield l) #[] #[])) (cs := [(.func (.yield l) #[] #[])]) X X X ?_
 intro b2 w3 h4 le5 hc6 st7
 refine Y<|W.sr<|v_field_addr X Tryz.underlying145 X Tryz.sizeOf32 X X<|v_field_addr X Tryz.underlying32 X Tryz.sizeOf30 X X<|v_load_cells1 (j := 4) st7.sub (p_c.up le5) X X X Tryz.isAgg30 X<|v_len (p_f4.up le5) X Tryz.underlying30 X ?_
 refine OpsL.makeInts (m := p.voters.length) st7 rfl Tryz.underlying42 Tryz.info3 rfl rfl rfl rfl (by show 8 * (p.voters.length) ≤ 281474976710656; omega) (by omega) ?_
 intro v8 o9 w10 f11 st12
 refine v_assign (v := v8) X X<|Y<|zf<|W.sr<|v_field_addr X Tryz.underlying145 X Tryz.sizeOf32 X X<|v_field_addr X Tryz.underlying32 X Tryz.sizeOf30 X X<|v_load_cells1 (j := 4) st12.sub (p_c.up le5) X X X Tryz.isAgg30 X<|v_len (p_f4.up le5) X Tryz.underlying30 X<|v_mvI X X<|Y<|zs ?_
 refine zG [4, 5, 16, 17, 18, 19, 20, 21, 22, 23, 24, 25, 26] (G := Nat × List (Nat × Obj) × Heap) (fun ⟨i, o_3, h13⟩ => [(16, .int .i64 (i : Int))]) (fun ⟨i, o_3, h13⟩ w' => Le h4 h13 ∧ St h w h13 w' [o_3] ∧ (OSl LInt 3 h13 v8 ((startL p i)) o_3) ∧ (i ≤ p.voters.length)) (fun ⟨i, o_3, h13⟩ => p.voters.length - i) ⟨0, o9, h4⟩ ⟨rfl, trivial⟩ ⟨Le.refl _, st12, (OSl.to f11 (by rw [startL_zero])), zK⟩ ?_
 rintro ⟨i, o_3, h13⟩ _ w16 ⟨le14, st15, hO_3, hi⟩
 refine W.sr<|v_lss X X X<|Y<|zf ?_
 refine zh rfl (fun c17 => ?_) (fun c17 => ?_)
 ·
  replace c17 := of_decide_eq_true c17
  refine zr<|U<|zf<|zs<|W.sr<|v_mvI X X ?_
  have hv : ∃ y_, (p.voters)[i]? = some y_ := ⟨_, List.getElem?_eq_getElem (by omega)⟩
  obtain ⟨v, hv⟩ := hv
  obtain ⟨b18, o19, _, he21, hc20, hr_v⟩ := Sl.elem (p_f4.up (le5.trans le14)) hv
  obtain ⟨v22, rfl, f23⟩ := hr_v
  have f23_b := f23.le
  refine v_index_el he21 X X (hk := X) (hu := Tryz.underlying30) (hz := Tryz.sizeOf79) X<|v_load_call st15.sub hc20 X Tryz.isAgg79 Tryz.sizeOf79 X X<|zD st15 Tryz.zeroValue79 X X ?_
  intro b24 w25 st26
  refine v_asI X X<|zC st26 (k := 1) X X X (zp X (zp X (zp f23.one zQ))) Tryz.sizeOf79 X X X ?_
  intro w27 st28
  obtain ⟨h29, le30, hb31, st33⟩ := st28.freeze (k := 1) rfl
  have hc32 := Cells.of hb31
  refine Y<|zg<|v_move (v := v8) X X<|v_mvI X X<|v_field_addr X Tryz.underlying79 X Tryz.sizeOf3 X X<|v_load_cells1 (j := 1) st33.sub hc32 X X X Tryz.isAgg3 X ?_
  have hy34 : ∃ y_, ((startL p i))[i]? = some y_ := ⟨_, List.getElem?_eq_getElem (by rw [startL_len (by omega)]; omega)⟩
  obtain ⟨y34, hy34⟩ := hy34
  obtain ⟨b35, o36, cur37, _, e40, he38, hr_y34, hc39⟩ := OSl.elem (hO_3.up le30) hy34
  subst e40
  obtain rfl := hr_y34
  refine v_index_el he38 X X (hk := X) (hu := Tryz.underlying42) (hz := Tryz.sizeOf3) X ?_
  refine OpsL.storeEl1 (k := 0) st33 (hO_3.up le30) rfl (by rw [startL_len (by omega)]; omega) he38 rfl rfl (rfl) Tryz.sizeOf3 ?_
  intro o41 w42 _ e43 f44 st45
  subst e43
  refine zt<|zw<|U<|zg<|v_add X X t_om X<|v_mvI X X<|Y ?_
  refine ⟨⟨i + 1, o41, h29⟩, ⟨rfl, trivial⟩, ?_, ⟨(le14.trans le30), st45.take 1, ?_, ?_⟩, ?_⟩
  ·exact zH
  ·refine OSl.to f44 ?_
   exact startL_set hv
  ·first | omega | (simp; omega)
  ·show p.voters.length - ((i + 1)) < p.voters.length - i
   omega
 ·
  replace c17 := of_decide_eq_false c17
  refine zL<|ze<|ze<|zF<|U<|W.sr<|zD st15 Tryz.zeroValue47 X X ?_
  intro b46 w47 st48
  refine Y<|W.sr<|v_make_func X X X<|zO st48 (k := 1) X X X X Tryz.sizeOf47 X X X ?_
  intro w49 st50
  obtain ⟨h51, le52, hb53, st55⟩ := st50.freeze (k := 1) rfl
  have hc54 := Cells.of hb53
  refine Y<|zg<|v_load_cells1 (j := 0) st55.sub hc54 X X X Tryz.isAgg47 X<|v_move (v := v8) X X ?_
  obtain ⟨h56, le57, f58, st59⟩ := OSl.freeze (k := 0) st55 (hO_3.up le52) rfl (by rw [startL_len (by omega)]; omega)
  have f60 := Sl.to f58 (show _ = leftL p [] from startL_all (by omega))
  have st61 := st0.over st59
  refine zX rfl rfl (zac (fs := []) (cs := [.pointer (some ⟨p_b, 0, none⟩), .pointer (some ⟨b2, 0, none⟩), .pointer (some ⟨b46, 0, none⟩)]) rfl rfl Tryz.call128 rfl) ((c_vote_count_truths_1_1 p.questions.length (Sl.nil _ _) f60 (p := p) (p_f0.up (((le5.trans le14).trans le52).trans le57)) (p_f1.up (((le5.trans le14).trans le52).trans le57)) (p_f2.up (((le5.trans le14).trans le52).trans le57)) (p_f3.up (((le5.trans le14).trans le52).trans le57)) (p_f4.up (((le5.trans le14).trans le52).trans le57)) (p_c.up (((le5.trans le14).trans le52).trans le57)) (hc6.up ((le14.trans le52).trans le57)) (hc54.up le57) hJm hJxm (hJm _ _ _ _ hJ0 (((le5.trans le14).trans le52).trans le57)) (fun a_ b_ c_ d_ e_ f_ g_ l_ => hY a_ b_ c_ d_ e_ f_ g_ ((((le5.trans le14).trans le52).trans le57).trans l_)) hp (now_nil hp) (onway_nil p) (by omega) rfl st61).mono ?_)
  rintro _ w62 ⟨h63, rest64, b65, rfl, le66, st67, hj68, hx69⟩
  refine ⟨_, rfl, ?_⟩
  refine zt<|Post.end0 Tryz.results127 ?_
  refine ⟨_, _, _, rfl, ((((le5.trans le14).trans le52).trans le57).trans le66), st67, ?_⟩
  cases e_ : b65
  ·exact .inr (hx69 e_)
  ·exact .inl ⟨_, rfl, by rw [← truthsFrom_nil]; exact hj68 e_⟩
end Go.Pk

namespace Go.Pk
open Go Go.RowKit Go.Proofs
set_option maxRecDepth 4000 in
theorem c_slices_AppendSeq_LLint_Lint {h : Heap} {w : World} (hs : Sub h w) {g : FuncId} {caps : List Value} {A : List (List Int) → Heap → Value → List Int → Prop} {T_ : List (List Int)} (eg : ∀ a w, (callFunc g a).run Tryz.prog w = .ok (.enter g a) w) (seq : GivesA Tryz.prog g caps A (fun xs => xs = T_) h) (hA : ∀ pre h u x, A pre h u x → Sl LInt h u x ∧ pre.length < 100000) (hT : T_.length ≤ 100000) : Calls Tryz.prog 143 #[.slice none 0 0, .func (.func g) #[] caps.toArray] w (Rets h w (fun h' _ res_ => ∃ u0, res_ = u0 ∧ Sl (LSl LInt) h' u0 (T_))) := by
 refine V.calls (n := 13) (args := [.slice none 0 0, .func (.func g) #[] caps.toArray]) Tryz.func143 X X X ?_
 have st0 : St h w h w [] := St.start hs
 refine V.seq<|V.region X<|OpsL.boxO st0 (cs := [(.slice none 0 0)]) X X X ?_
 intro b1 w2 st3
 refine v_asL X X<|zt<|zY<|V.seq<|V.seq<|V.region X<|v_move X X<|zt<|zY<|V.block ?_
 have st4 := st3.snoc
 have f5 := OSl.nil (LSl LInt) 42 h
 refine V.rangeFuncP (I := fun xs h_ own_ => ∃ (v_ : Value) (o_ : List (Nat × Obj)), own_ = [[(b1, .cells (List.toArray [v_]) 91)], o_] ∧ OSl (LSl LInt) 42 h_ v_ xs o_) (Ix := fun _ _ _ _ => False) st4 rfl eg rfl (seq _ _ _ (Le.refl _)) (by rintro xs_ h1_ h2_ o1_ ⟨v_, o_, rfl, q_⟩ l_; exact ⟨v_, o_, rfl, q_.up l_⟩) (by intro _ _ _ _ _ h_ _; exact h_) ⟨.slice none 0 0, [], rfl, by exact OSl.nil (LSl LInt) 42 _⟩ ?_ ?_ ?_
 ·rintro l_ pre x h6 w7 _ tail u8 le9 ⟨v_, o_, rfl, hi11⟩ st10 hA12
  have hpl := (hA _ _ _ _ hA12).2
  refine V.region X<|v_assign (v := u8) X X<|zt ?_
  refine APost.mk (own2 := [[(b1, .cells (List.toArray [v_]) 91)], o_]) (Le.refl _) st10 ?_
  intro tail15 w14 st13
  refine V.block<|V.region X<|v_load_b1 (st13.get (k := 0) X) X X Tryz.isAgg91 X<|v_move (v := u8) X X ?_
  refine zN (L := (LSl LInt)) (xs := [x]) (cs := [u8]) st13 (Enc.cons (L := (LSl LInt)) (vs := [u8]) (x := x) (h := h6) (⟨_, rfl, (hA _ _ _ _ hA12).1⟩) Enc.nil) rfl rfl rfl Tryz.underlying91 Tryz.info42 rfl rfl rfl (by obtain ⟨_, _, rfl⟩ := Sl.form (hA _ _ _ _ hA12).1; kernel_rfl) ?_
  intro v16 w17 h20 le21 f18 st19
  refine zaf (k := 1) (nb := 24) st19 (hi11.up le21) rfl f18 rfl rfl rfl Tryz.underlying91 Tryz.info42 rfl rfl rfl (by decide) rfl (by simp only [List.length_append, List.length_cons, List.length_nil]; omega) (by simp only [List.length_append, List.length_cons, List.length_nil]; omega) ?_
  intro v22 o23 w24 _ e25 f26 st27
  subst e25
  refine zO st27 (k := 0) X X (v := v22) X f26.one Tryz.sizeOf91 X X X ?_
  intro w28 st29
  refine zt<|BlkV.norm ?_
  refine RPost.norm (own3 := [[(b1, .cells (List.toArray [v22]) 91)], o23]) le21 st29 ⟨v22, o23, ?_, ?_⟩
  ·rfl
  ·exact OSl.to f26 rfl
 ·rintro D30 xs h31 w32 _ le33 hS34 ⟨v_, o_, rfl, hi35⟩ st36
  have hxe := hS34
  refine BlkV.norm<|zY<|V.seq<|V.region X<|v_load_b1 (st36.get (k := 0) X) X X Tryz.isAgg91 X<|v_assign (v := v_) X X<|zt<|zY<|V.ret<|PostV.one (own := [[(b1, .cells (List.toArray [v_]) 91)], o_]) st36 ?_
  intro w38 st37
  refine za Tryz.results143 ?_
  obtain ⟨h39, le40, f41, st42⟩ := OSl.freeze (k := 1) st37 hi35 rfl (by rw [hxe]; omega)
  refine ⟨h39, _, rfl, st42.done, ?_⟩
  refine ⟨_, rfl, Sl.to f41 ?_⟩
  exact hS34
 ·intro _ _ _ _ _ _ _ hf_; exact hf_.elim
set_option maxRecDepth 4000 in
theorem c_slices_Collect_Lint {h : Heap} {w : World} (hs : Sub h w) {g : FuncId} {caps : List Value} {A : List (List Int) → Heap → Value → List Int → Prop} {T_ : List (List Int)} (eg : ∀ a w, (callFunc g a).run Tryz.prog w = .ok (.enter g a) w) (seq : GivesA Tryz.prog g caps A (fun xs => xs = T_) h) (hA : ∀ pre h u x, A pre h u x → Sl LInt h u x ∧ pre.length < 100000) (hT : T_.length ≤ 100000) : Calls Tryz.prog 100 #[.func (.func g) #[] caps.toArray] w (Rets h w (fun h' _ res_ => ∃ u0, res_ = u0 ∧ Sl (LSl LInt) h' u0 (T_))) := by
 refine zz (n := 5) (args := [.func (.func g) #[] caps.toArray]) Tryz.func100 X X X ?_
 have st0 : St h w h w [] := St.start hs
 refine W.sr<|v_asL X X<|Y<|W.sr<|v_move X X<|zi st0 X X X Tryz.call143 X (c_slices_AppendSeq_LLint_Lint st0.sub eg (seq.up (Le.refl _)) hA hT) ?_
 intro r1 w2 h3 le4 st5 q6
 obtain ⟨v7, e9, f8⟩ := q6
 rw [← e9] at f8
 have f8_b := f8.le
 refine v_assign (v := r1) X X<|Y<|zo<|za Tryz.results100 ?_
 refine ⟨h3, _, rfl, st5.done, ?_⟩
 refine ⟨_, rfl, Sl.to f8 ?_⟩
 rfl
theorem gives_truths {h : Heap} {p_b : Nat} {p : Poll} {p_v0 : Value} (p_f0 : Sl LChapter h p_v0 p.text.chapters) {p_v1 : Value} (p_f1 : Sl LRule h p_v1 p.lexicon.rules) {p_v2 : Value} (p_f2 : Sl LDecision h p_v2 p.lexicon.decisions) {p_v3 : Value} (p_f3 : Sl LQuestion h p_v3 p.questions) {p_v4 : Value} (p_f4 : Sl LVoter h p_v4 p.voters) (p_c : Cells h p_b 0 [p_v0, p_v1, p_v2, p_v3, p_v4]) (hp : pollB p = true) : GivesA Tryz.prog 127 [.pointer (some ⟨p_b, 0, none⟩)] (fun pre_ h_ u_ x_ => Sl LInt h_ u_ x_ ∧ (truthsL p)[pre_.length]? = some x_) (fun xs => xs = truthsL p) h := by
 intro h0 w0 h1 l1 l J Jx hm hxm hY h2 w rest l2 hJ st
 exact c_vote_count_truths_1 (p := p) (p_f0.up (l1.trans l2)) (p_f1.up (l1.trans l2)) (p_f2.up (l1.trans l2)) (p_f3.up (l1.trans l2)) (p_f4.up (l1.trans l2)) (p_c.up (l1.trans l2)) hm hxm hJ (fun _ _ _ _ _ _ _ l3 a b c => hY _ _ _ _ _ _ _ (l2.trans l3) a b c) hp st
set_option maxRecDepth 4000 in
theorem c_vote_count_truths {h : Heap} {w : World} (hs : Sub h w) {p : Poll} {p_v0 : Value} (p_f0 : Sl LChapter h p_v0 p.text.chapters) {p_v1 : Value} (p_f1 : Sl LRule h p_v1 p.lexicon.rules) {p_v2 : Value} (p_f2 : Sl LDecision h p_v2 p.lexicon.decisions) {p_v3 : Value} (p_f3 : Sl LQuestion h p_v3 p.questions) {p_v4 : Value} (p_f4 : Sl LVoter h p_v4 p.voters) : Calls Tryz.prog 92 #[.agg #[p_v0, p_v1, p_v2, p_v3, p_v4]] w (fun e_ w' => ∃ h' bo, e_ = .returned (.func (.func 127) #[] #[.pointer (some ⟨bo, 0, none⟩)]) ∧ Le h h' ∧ St h w h' w' [] ∧ Cells h' bo 0 [p_v0, p_v1, p_v2, p_v3, p_v4]) := by
 refine zz (n := 4) (args := [.agg #[p_v0, p_v1, p_v2, p_v3, p_v4]]) Tryz.func92 X X X ?_
 have st0 : St h w h w [] := St.start hs
 have p_f0_b := p_f0.le
 have p_f1_b := p_f1.le
 have p_f2_b := p_f2.le
 have p_f3_b := p_f3.le
 have p_f4_b := p_f4.le
 refine W.sr<|zy st0 (cs := [p_v0, p_v1, p_v2, p_v3, p_v4]) X X X ?_
 intro b1 w2 h3 le4 hc5 st6
 refine v_assign X X<|Y<|W.sr<|v_make_func X X X<|zk X X (r_asF X)<|Y<|zo<|za Tryz.results92 ?_
 exact ⟨h3, _, rfl, le4, st6, hc5⟩
set_option maxRecDepth 4000 in
theorem c_vote_open {h : Heap} {w : World} (hs : Sub h w) {p : Poll} {p_v0 : Value} (p_f0 : Sl LChapter h p_v0 p.text.chapters) {p_v1 : Value} (p_f1 : Sl LRule h p_v1 p.lexicon.rules) {p_v2 : Value} (p_f2 : Sl LDecision h p_v2 p.lexicon.decisions) {p_v3 : Value} (p_f3 : Sl LQuestion h p_v3 p.questions) {p_v4 : Value} (p_f4 : Sl LVoter h p_v4 p.voters) (K1 : Cells h 1 0 Tryz.glob1) (K0 : Cells h 0 0 Tryz.glob0) : Calls Tryz.prog 91 #[.agg #[p_v0, p_v1, p_v2, p_v3, p_v4]] w (Rets h w (fun h' _ res_ => ∃ u0 u1 u2 u3 u4, res_ = .tuple #[.agg #[u0, u1, u2, u3, u4], .int .i64 (checkP p)] ∧ Sl LChapter h' u0 (p).text.chapters ∧ Sl LRule h' u1 (p).lexicon.rules ∧ Sl LDecision h' u2 (p).lexicon.decisions ∧ Sl LQuestion h' u3 (p).questions ∧ Sl LVoter h' u4 (p).voters)) := by
 refine zz (n := 8) (args := [.agg #[p_v0, p_v1, p_v2, p_v3, p_v4]]) Tryz.func91 X X X ?_
 have st0 : St h w h w [] := St.start hs
 have p_f0_b := p_f0.le
 have p_f1_b := p_f1.le
 have p_f2_b := p_f2.le
 have p_f3_b := p_f3.le
 have p_f4_b := p_f4.le
 refine W.sr<|zy st0 (cs := [p_v0, p_v1, p_v2, p_v3, p_v4]) X X X ?_
 intro b1 w2 h3 le4 hc5 st6
 refine zD st6 Tryz.zeroValue145 X X ?_
 intro b7 w8 st9
 refine v_asI X X<|Y<|zf<|zad (er := ([], [], [], [], 0)) (dsts := [4, 5, 6, 7, 3]) st9 Tryz.mixed<|zq 0 [] X t_kr t_kr X X (fun hD wD τD hL hS hO  => (zM (hL.sub hS) hc5 X Tryz.isAgg32 Tryz.sizeOf32 X)) ?_
 refine zq 1 [0] rfl t_kr t_kr rfl rfl (fun hD wD τD hL hS hO _ _ => (r_build (cs := [p_v0, p_v1, p_v2, p_v3, p_v4]) (by obtain ⟨_, _, rfl⟩ := Sl.form p_f0; obtain ⟨_, _, rfl⟩ := Sl.form p_f1; obtain ⟨_, _, rfl⟩ := Sl.form p_f2; obtain ⟨_, _, rfl⟩ := Sl.form p_f3; obtain ⟨_, _, rfl⟩ := Sl.form p_f4; kernel_rfl))) ?_
 refine zq 2 [] X t_kr t_kr X X (fun hD wD τD hL hS hO  => (zM (hL.sub hS) hc5 X Tryz.isAgg32 Tryz.sizeOf32 X)) ?_
 refine zJ 3 (.det (.int .i64 (checkP (p)))) [0] rfl t_kr t_kr ?_ ?_
 ·
  intro hD wD τD hL hS hO _ _
  have st10 := St.start hS
  refine zi st10 X X X Tryz.call40 X (c_vote_Check st10.sub (p := p) (p_f0.up (le4.trans hL)) (p_f1.up (le4.trans hL)) (p_f2.up (le4.trans hL)) (p_f3.up (le4.trans hL)) (p_f4.up (le4.trans hL)) (K1.up (le4.trans hL)) (K0.up (le4.trans hL))) ?_
  intro r11 w12 h13 le14 st15 q16
  obtain rfl := q16
  exact zt ⟨_, _, rfl, st15, (), rfl, trivial⟩
 refine Drw.ch<|zq 5 [4, 3, 2, 1, 0] X t_kr t_kr X X (fun hD wD τD hL hS hO _ _ _ _ _ _ _ _ => (r_asI X))<|Drw.nil X X X X X X ⟨t_kr, X, t_kr, X, t_kr, X, X, t_kr, (cx_cons X cx_nil)⟩ ?_
 intro hE18 w19 _ le20 st21 _ _ _ _ _ _
 refine zC st21 (k := 0) X X X (zp p_f0.one (zp p_f1.one (zp p_f2.one (zp p_f3.one (zp p_f4.one zQ))))) Tryz.sizeOf145 X X X ?_
 intro w22 st23
 obtain ⟨h24, le25, hb26, st28⟩ := st23.freeze (k := 0) rfl
 have hc27 := Cells.of hb26
 refine zt ⟨undef, rfl, _, _, le25, st28, ?_⟩
 intro hE29 w30 _ le31 st32 _ _ _ _ _ _ _ _ _ _
 refine AllDeps.fin X<|U<|zo<|Post.retcell2F Tryz.results91 X Tryz.isAgg145 Tryz.sizeOf145 X st32.sub (hc27.up le31) ?_
 refine ⟨hE29, _, rfl, st32.done, ?_⟩
 refine ⟨_, _, _, _, _, tup2 ?_ (zB ?_), Sl.to (p_f0.up (((le4.trans le20).trans le25).trans le31)) ?_, Sl.to (p_f1.up (((le4.trans le20).trans le25).trans le31)) ?_, Sl.to (p_f2.up (((le4.trans le20).trans le25).trans le31)) ?_, Sl.to (p_f3.up (((le4.trans le20).trans le25).trans le31)) ?_, Sl.to (p_f4.up (((le4.trans le20).trans le25).trans le31)) ?_⟩
 all_goals rfl
set_option maxRecDepth 4000 in
theorem c_vote_all {h : Heap} {w : World} (hs : Sub h w) {p : Poll} {p_v0 : Value} (p_f0 : Sl LChapter h p_v0 p.text.chapters) {p_v1 : Value} (p_f1 : Sl LRule h p_v1 p.lexicon.rules) {p_v2 : Value} (p_f2 : Sl LDecision h p_v2 p.lexicon.decisions) {p_v3 : Value} (p_f3 : Sl LQuestion h p_v3 p.questions) {p_v4 : Value} (p_f4 : Sl LVoter h p_v4 p.voters) (so : Bool) (K1 : Cells h 1 0 Tryz.glob1) (K0 : Cells h 0 0 Tryz.glob0) : Calls Tryz.prog 54 #[.agg #[p_v0, p_v1, p_v2, p_v3, p_v4], .bool so] w (Rets h w (fun h' _ res_ => ∃ u0, res_ = .tuple #[u0, .int .i64 (allE p so)] ∧ Sl (LSl LInt) h' u0 ((allL p so)))) := by
 refine zz (n := 26) (args := [.agg #[p_v0, p_v1, p_v2, p_v3, p_v4], .bool so]) Tryz.func54 X X X ?_
 have st0 : St h w h w [] := St.start hs
 have p_f0_b := p_f0.le
 have p_f1_b := p_f1.le
 have p_f2_b := p_f2.le
 have p_f3_b := p_f3.le
 have p_f4_b := p_f4.le
 refine W.sr<|zy st0 (cs := [p_v0, p_v1, p_v2, p_v3, p_v4]) X X X ?_
 intro b1 w2 h3 le4 hc5 st6
 refine v_asL X X<|v_asI X X<|Y<|W.sr<|v_load_call st6.sub hc5 X Tryz.isAgg32 Tryz.sizeOf32 X X<|zi st6 X X X Tryz.call91 X (c_vote_open st6.sub (p := p) (p_f0.up le4) (p_f1.up le4) (p_f2.up le4) (p_f3.up le4) (p_f4.up le4) (K1.up le4) (K0.up le4)) ?_
 intro r7 w8 h9 le10 st11 q12
 obtain ⟨v13, v15, v17, v19, v21, rfl, f14, f16, f18, f20, f22⟩ := q12
 have f14_b := f14.le
 have f16_b := f16.le
 have f18_b := f18.le
 have f20_b := f20.le
 have f22_b := f22.le
 refine v_mvT X X<|v_extract (v := (.agg (List.toArray _))) X X X<|v_extract (v := (.int _ _)) X X X<|zD st11 Tryz.zeroValue145 X X ?_
 intro b23 w24 st25
 refine zC st25 (k := 0) X X X (zp f14.one (zp f16.one (zp f18.one (zp f20.one (zp f22.one zQ))))) Tryz.sizeOf145 X X X ?_
 intro w26 st27
 obtain ⟨h28, le29, hb30, st32⟩ := st27.freeze (k := 0) rfl
 have hc31 := Cells.of hb30
 refine v_asI X X<|Y<|zf<|W.sr<|v_mvI X X<|v_neq X X X<|Y ?_
 refine zh rfl (fun c33 => ?_) (fun c33 => ?_)
 ·
  replace c33 := of_decide_eq_true c33
  refine W.sr<|v_mvI X X<|v_asL X X<|v_asI X X<|Y<|zo<|E<|zV Tryz.results54 ?_
  refine ⟨h28, _, rfl, st32.done, ?_⟩
  refine ⟨_, tup2 rfl (zB ?_), Sl.to (Sl.nil _ _) ?_⟩
  all_goals simp_all [allL, allE]
 ·
  replace c33 := of_decide_eq_false c33
  refine zr<|U<|zf<|W.sr<|v_mvB X X<|v_not X X<|Y ?_
  refine zh rfl (fun c34 => ?_) (fun c34 => ?_)
  ·
   refine W.sr<|v_asL X X<|v_asI X X<|Y<|zo<|E<|zV Tryz.results54 ?_
   refine ⟨h28, _, rfl, st32.done, ?_⟩
   refine ⟨_, tup2 rfl (zB ?_), Sl.to (Sl.nil _ _) ?_⟩
   all_goals simp_all [allL, allE]
  ·
   refine zr<|U<|zf ?_
   have hk1 : checkP p = 0 := by simpa using c33
   have hpb := (check_ok hk1).2
   have htl := truths_le hpb
   refine zg<|v_load_call st32.sub hc31 X Tryz.isAgg145 Tryz.sizeOf145 X X ?_
   refine zX rfl rfl (zT rfl Tryz.call92 rfl) ((c_vote_count_truths st32.sub (p := (p)) (f14.up le29) (f16.up le29) (f18.up le29) (f20.up le29) (f22.up le29)).mono ?_)
   rintro _ w35 ⟨h36, bo37, rfl, le38, s39, hc40⟩
   refine ⟨_, rfl, ?_⟩
   have st41 := st32.call0 s39
   refine zi st41 rfl rfl rfl Tryz.call100 rfl (c_slices_Collect_Lint st41.sub Tryz.call127 (gives_truths (p := p) (f14.up (le29.trans le38)) (f16.up (le29.trans le38)) (f18.up (le29.trans le38)) (f20.up (le29.trans le38)) (f22.up (le29.trans le38)) hc40 hpb) (fun _ _ _ _ q_ => ⟨q_.1, by have q2_ := (List.getElem?_eq_some_iff.1 q_.2).1; omega⟩) (by omega)) ?_
   intro r42 w43 h44 le45 st46 q47
   obtain ⟨v48, e50, f49⟩ := q47
   rw [← e50] at f49
   have f49_b := f49.le
   refine v_assign (v := r42) X X<|Y<|zf<|W.sr<|v_move (v := r42) X X<|v_len f49 X Tryz.underlying91 X<|v_eql X X X<|Y ?_
   refine zh rfl (fun c51 => ?_) (fun c51 => ?_)
   ·
    replace c51 := of_decide_eq_true c51
    refine W.sr<|v_asL X X<|v_asI X X<|Y<|zo<|E<|zV Tryz.results54 ?_
    refine ⟨h44, _, rfl, st46.done, ?_⟩
    refine ⟨_, tup2 rfl (zB ?_), Sl.to (Sl.nil _ _) ?_⟩
    all_goals simp_all [allL, allE]
   ·
    replace c51 := of_decide_eq_false c51
    refine zr<|U<|W.sr<|v_move (v := r42) X X<|v_assign (v := r42) X X<|v_asI X X<|Y<|zo<|zV Tryz.results54 ?_
    refine ⟨h44, _, rfl, st46.done, ?_⟩
    refine ⟨_, tup2 rfl (zB ?_), Sl.to f49 ?_⟩
    all_goals simp_all [allL, allE]
end Go.Pk

namespace Go.Pk
open Go Go.RowKit Go.Proofs
end Go.Pk

namespace Go.Pk
open Go Go.RowKit Go.Proofs
set_option maxRecDepth 4000 in
set_option maxHeartbeats 1000000 in
theorem c_postilref07_Great {h : Heap} {w : World} (hs : Sub h w) {p : Poll} {p_v0 : Value} (p_f0 : Sl LChapter h p_v0 p.text.chapters) {p_v1 : Value} (p_f1 : Sl LRule h p_v1 p.lexicon.rules) {p_v2 : Value} (p_f2 : Sl LDecision h p_v2 p.lexicon.decisions) {p_v3 : Value} (p_f3 : Sl LQuestion h p_v3 p.questions) {p_v4 : Value} (p_f4 : Sl LVoter h p_v4 p.voters) : Calls Tryz.prog 15 #[.agg #[p_v0, p_v1, p_v2, p_v3, p_v4]] w (Rets h w (fun _ _ res_ => res_ = .bool ((!smallP p)))) := by
 refine zz (n := 79) (args := [.agg #[p_v0, p_v1, p_v2, p_v3, p_v4]]) Tryz.func15 X X X ?_
 have st0 : St h w h w [] := St.start hs
 have p_f0_b := p_f0.le
 have p_f1_b := p_f1.le
 have p_f2_b := p_f2.le
 have p_f3_b := p_f3.le
 have p_f4_b := p_f4.le
 refine W.sr<|zy st0 (cs := [p_v0, p_v1, p_v2, p_v3, p_v4]) X X X ?_
 intro b1 w2 h3 le4 hc5 st6
 refine v_asB X X<|Y<|zf<|W.sr<|v_field_addr X Tryz.underlying32 X Tryz.sizeOf24 X X<|v_load_cellsN (j := 0) st6.sub hc5 (us := [p_v0]) X X Tryz.isAgg24 Tryz.sizeOf24 X X X<|zi st6 X X X Tryz.call50 X (c_postilref01_Great st6.sub (t := p.text) (p_f0.up le4)) ?_
 intro r7 w8 h9 le10 st11 q12
 obtain rfl := q12
 refine v_mvB X X ?_
 refine zx (d := 9) rfl (fun g13 => ?_) (fun g13 => ?_)
 ·
  refine Z X X X X X<|Z X X X X X<|Z X X X X X<|v_pickT (v := (.bool _)) X X X<|v_mvB X X<|Z X X X X X<|Z X X X X X<|Z X X X X X<|Z X X X X X<|v_pickT (v := (.bool _)) X X X<|v_mvB X X<|Z X X X X X<|Z X X X X X<|Z X X X X X<|Z X X X X X<|v_pickT (v := (.bool _)) X X X<|Y ?_
  refine zh rfl (fun c14 => ?_) (fun c14 => ?_)
  ·
   refine W.sr<|v_asB X X<|Y<|zo<|E<|za Tryz.results15 ?_
   refine ⟨h9, _, rfl, st11.done, ?_⟩
   refine zj ?_
   rw [small_no p (.inl (by simp_all))]; rfl
  ·
   cases c14
 ·
  refine M X X (d := 9) X<|v_field_addr X Tryz.underlying32 X Tryz.sizeOf28 X X<|M X X (d := 9) X<|v_load_cellsN (j := 1) st11.sub (hc5.up le10) (us := [p_v1, p_v2]) X X Tryz.isAgg28 Tryz.sizeOf28 X X X<|M X X (d := 9) X<|zi st11 X X X Tryz.call51 X (c_postilref04_Great st11.sub (x := p.lexicon) (p_f1.up (le4.trans le10)) (p_f2.up (le4.trans le10))) ?_
  intro r15 w16 h17 le18 st19 q20
  obtain rfl := q20
  refine v_pickF (v := (.bool _)) X X X<|v_mvB X X ?_
  refine zx (d := 14) rfl (fun g21 => ?_) (fun g21 => ?_)
  ·
   refine Z X X X X X<|Z X X X X X<|Z X X X X X<|Z X X X X X<|v_pickT (v := (.bool _)) X X X<|v_mvB X X<|Z X X X X X<|Z X X X X X<|Z X X X X X<|Z X X X X X<|v_pickT (v := (.bool _)) X X X<|Y ?_
   refine zh rfl (fun c22 => ?_) (fun c22 => ?_)
   ·
    refine W.sr<|v_asB X X<|Y<|zo<|E<|za Tryz.results15 ?_
    refine ⟨h17, _, rfl, st19.done, ?_⟩
    refine zj ?_
    rw [small_no p (.inr (.inl (by simp_all)))]; rfl
   ·
    cases c22
  ·
   refine M X X (d := 14) X<|v_field_addr X Tryz.underlying32 X Tryz.sizeOf29 X X<|M X X (d := 14) X<|v_load_cells1 (j := 3) st19.sub (hc5.up (le10.trans le18)) X X X Tryz.isAgg29 X<|M X X (d := 14) X<|v_len (p_f3.up ((le4.trans le10).trans le18)) X Tryz.underlying29 X<|M X X (d := 14) X<|v_gtr X X X<|v_pickF (v := (.bool _)) X X X<|v_mvB X X ?_
   refine zx (d := 20) rfl (fun g23 => ?_) (fun g23 => ?_)
   ·
    replace g23 := of_decide_eq_true g23
    refine Z X X X X X<|Z X X X X X<|Z X X X X X<|Z X X X X X<|v_pickT (v := (.bool _)) X X X<|Y ?_
    refine zh rfl (fun c24 => ?_) (fun c24 => ?_)
    ·
     refine W.sr<|v_asB X X<|Y<|zo<|E<|za Tryz.results15 ?_
     refine ⟨h17, _, rfl, st19.done, ?_⟩
     refine zj ?_
     rw [small_no p (.inr (.inr (.inl (by omega))))]; rfl
    ·
     cases c24
   ·
    replace g23 := of_decide_eq_false g23
    refine M X X (d := 20) X<|v_field_addr X Tryz.underlying32 X Tryz.sizeOf30 X X<|M X X (d := 20) X<|v_load_cells1 (j := 4) st19.sub (hc5.up (le10.trans le18)) X X X Tryz.isAgg30 X<|M X X (d := 20) X<|v_len (p_f4.up ((le4.trans le10).trans le18)) X Tryz.underlying30 X<|M X X (d := 20) X<|v_gtr X X X<|v_pickF (v := (.bool _)) X X X<|Y ?_
    refine zh rfl (fun c25 => ?_) (fun c25 => ?_)
    ·
     replace c25 := of_decide_eq_true c25
     refine W.sr<|v_asB X X<|Y<|zo<|E<|za Tryz.results15 ?_
     refine ⟨h17, _, rfl, st19.done, ?_⟩
     refine zj ?_
     rw [small_no p (.inr (.inr (.inr (by omega))))]; rfl
    ·
     replace c25 := of_decide_eq_false c25
     refine zr<|U<|zf<|W.sr<|v_asI X X<|Y<|zs ?_
     refine zG [2, 3, 4, 26, 27, 28, 29, 30, 31, 32, 33, 34, 35, 36, 37, 38, 39, 40, 41, 42, 43, 44, 45, 46, 47, 48, 49, 50, 51, 52, 53, 54, 55, 56, 57, 58, 59, 60, 61, 62, 63] (G := Nat × Heap) (fun ⟨i, h26⟩ => [(3, .int .i64 (i : Int))]) (fun ⟨i, h26⟩ w' => Le h17 h26 ∧ St h w h26 w' [] ∧ (i ≤ p.questions.length) ∧ ((p.questions.take i).all smallQ = true)) (fun ⟨i, h26⟩ => p.questions.length - i) ⟨0, h17⟩ ⟨rfl, trivial⟩ ⟨Le.refl _, st19, zK, zK⟩ ?_
     rintro ⟨i, h26⟩ _ w29 ⟨le27, st28, hi, hA⟩
     refine zf<|W.sr<|v_mvI X X<|v_field_addr X Tryz.underlying32 X Tryz.sizeOf29 X X<|v_load_cells1 (j := 3) st28.sub (hc5.up ((le10.trans le18).trans le27)) X X X Tryz.isAgg29 X<|v_len (p_f3.up (((le4.trans le10).trans le18).trans le27)) X Tryz.underlying29 X<|v_lss X X X<|Y ?_
     refine zh rfl (fun c30 => ?_) (fun c30 => ?_)
     ·
      replace c30 := of_decide_eq_true c30
      refine zr<|U<|zf<|zs<|zf<|W.sr<|v_field_addr X Tryz.underlying32 X Tryz.sizeOf29 X X<|v_load_cells1 (j := 3) st28.sub (hc5.up ((le10.trans le18).trans le27)) X X X Tryz.isAgg29 X<|v_mvI X X ?_
      have hq : ∃ y_, (p.questions)[i]? = some y_ := ⟨_, List.getElem?_eq_getElem (by omega)⟩
      obtain ⟨q, hq⟩ := hq
      obtain ⟨b31, o32, _, he34, hc33, hr_q⟩ := Sl.elem (p_f3.up (((le4.trans le10).trans le18).trans le27)) hq
      obtain ⟨v35, rfl, f36⟩ := hr_q
      have f36_b := f36.le
      refine v_index_el he34 X X (hk := X) (hu := Tryz.underlying29) (hz := Tryz.sizeOf84) X<|v_field_addr X Tryz.underlying84 X Tryz.sizeOf82 X X<|v_load_cells1 (j := 3) st28.sub hc33 X X X Tryz.isAgg82 X<|v_len f36 X Tryz.underlying82 X<|v_gtr X X X<|Y ?_
      refine zh rfl (fun c37 => ?_) (fun c37 => ?_)
      ·
       replace c37 := of_decide_eq_true c37
       refine W.sr<|v_asB X X<|Y<|zo<|E<|zn<|E<|E<|zn<|E<|za Tryz.results15 ?_
       refine ⟨h26, _, rfl, st28.done, ?_⟩
       refine zj ?_
       rw [small_noq hq (small_q6 (by omega))]; rfl
      ·
       replace c37 := of_decide_eq_false c37
       refine zr<|U<|W.sr<|v_asI X X<|Y<|zs ?_
       refine zG [2, 4, 41, 42, 43, 44, 45, 46, 47, 48, 49, 50, 51, 52, 53, 54, 55, 56, 57, 58, 59, 60, 61, 62, 63] (G := Nat × Heap) (fun ⟨k, h38⟩ => [(4, .int .i64 (k : Int))]) (fun ⟨k, h38⟩ w' => Le h26 h38 ∧ St h w h38 w' [] ∧ (k ≤ q.heads.length) ∧ (((q.heads.take k).all fun h => decide (h.stem.length ≤ 40)) = true)) (fun ⟨k, h38⟩ => q.heads.length - k) ⟨0, h26⟩ ⟨rfl, trivial⟩ ⟨Le.refl _, st28, zK, zK⟩ ?_
       rintro ⟨k, h38⟩ _ w41 ⟨le39, st40, hk, hB⟩
       refine zf<|W.sr<|v_mvI X X<|v_field_addr X Tryz.underlying32 X Tryz.sizeOf29 X X<|v_load_cells1 (j := 3) st40.sub (hc5.up (((le10.trans le18).trans le27).trans le39)) X X X Tryz.isAgg29 X<|v_mvI X X<|v_index_el he34 X X (hk := X) (hu := Tryz.underlying29) (hz := Tryz.sizeOf84) X<|v_field_addr X Tryz.underlying84 X Tryz.sizeOf82 X X<|v_load_cells1 (j := 3) st40.sub (hc33.up le39) X X X Tryz.isAgg82 X<|v_len (f36.up le39) X Tryz.underlying82 X<|v_lss X X X<|Y ?_
       refine zh rfl (fun c42 => ?_) (fun c42 => ?_)
       ·
        replace c42 := of_decide_eq_true c42
        refine zr<|U<|zf<|zs<|W.sr<|v_field_addr X Tryz.underlying32 X Tryz.sizeOf29 X X<|v_load_cells1 (j := 3) st40.sub (hc5.up (((le10.trans le18).trans le27).trans le39)) X X X Tryz.isAgg29 X<|v_mvI X X<|v_index_el he34 X X (hk := X) (hu := Tryz.underlying29) (hz := Tryz.sizeOf84) X<|v_field_addr X Tryz.underlying84 X Tryz.sizeOf82 X X<|v_load_cells1 (j := 3) st40.sub (hc33.up le39) X X X Tryz.isAgg82 X<|v_mvI X X ?_
        have hhd : ∃ y_, (q.heads)[k]? = some y_ := ⟨_, List.getElem?_eq_getElem (by omega)⟩
        obtain ⟨hd, hhd⟩ := hhd
        obtain ⟨b43, o44, _, he46, hc45, hr_hd⟩ := Sl.elem (f36.up le39) hhd
        obtain ⟨rfl, ls47, lu48⟩ := hr_hd
        simp only [big] at ls47
        refine v_index_el he46 X X (hk := X) (hu := Tryz.underlying82) (hz := Tryz.sizeOf72) X<|v_field_addr X Tryz.underlying72 X Tryz.sizeOf9 X X<|v_load_cells1 (j := 0) st40.sub hc45 X X X Tryz.isAgg9 X<|v_len_str X Tryz.underlying9 X<|v_gtr X X X<|Y ?_
        refine zh rfl (fun c49 => ?_) (fun c49 => ?_)
        ·
         replace c49 := of_decide_eq_true c49
         refine W.sr<|v_asB X X<|Y<|zo<|zn<|E<|E<|zn<|zn<|E<|E<|zn<|E<|za Tryz.results15 ?_
         refine ⟨h38, _, rfl, st40.done, ?_⟩
         refine zj ?_
         rw [small_noq hq (small_qh hhd (by omega))]; rfl
        ·
         replace c49 := of_decide_eq_false c49
         refine zr<|zw<|U<|zg<|v_mvI X X<|v_add X X t_om X<|v_asI X X<|Y ?_
         refine ⟨⟨k + 1, h38⟩, ⟨rfl, trivial⟩, ?_, ⟨le39, st40, ?_, ?_⟩, ?_⟩
         ·exact zH
         ·first | omega | (simp; omega)
         ·rw [all_snocB hhd, hB, Bool.true_and]; exact decide_eq_true (by omega)
         ·show q.heads.length - ((k + 1)) < q.heads.length - k
          omega
       ·
        replace c42 := of_decide_eq_false c42
        refine zL<|ze<|ze<|zF<|zw<|U<|zg<|v_mvI X X<|v_add X X t_om X<|v_asI X X<|Y ?_
        refine ⟨⟨i + 1, h38⟩, ⟨rfl, trivial⟩, ?_, ⟨(le27.trans le39), st40, ?_, ?_⟩, ?_⟩
        ·exact zH
        ·first | omega | (simp; omega)
        ·rw [all_snocB hq, hA, Bool.true_and]; exact small_qy (by omega) hB (by omega)
        ·show p.questions.length - ((i + 1)) < p.questions.length - i
         omega
     ·
      replace c30 := of_decide_eq_false c30
      refine zL<|ze<|ze<|zF<|U<|zf<|W.sr<|v_asI X X<|Y<|zs ?_
      refine zG [2, 5, 64, 65, 66, 67, 68, 69, 70, 71, 72, 73, 74, 75, 76, 77, 78] (G := Nat × Heap) (fun ⟨j, h50⟩ => [(5, .int .i64 (j : Int))]) (fun ⟨j, h50⟩ w' => Le h26 h50 ∧ St h w h50 w' [] ∧ (j ≤ p.voters.length) ∧ ((p.voters.take j).all smallV = true)) (fun ⟨j, h50⟩ => p.voters.length - j) ⟨0, h26⟩ ⟨rfl, trivial⟩ ⟨Le.refl _, st28, zK, zK⟩ ?_
      rintro ⟨j, h50⟩ _ w53 ⟨le51, st52, hj, hV⟩
      refine zf<|W.sr<|v_mvI X X<|v_field_addr X Tryz.underlying32 X Tryz.sizeOf30 X X<|v_load_cells1 (j := 4) st52.sub (hc5.up (((le10.trans le18).trans le27).trans le51)) X X X Tryz.isAgg30 X<|v_len (p_f4.up ((((le4.trans le10).trans le18).trans le27).trans le51)) X Tryz.underlying30 X<|v_lss X X X<|Y ?_
      refine zh rfl (fun c54 => ?_) (fun c54 => ?_)
      ·
       replace c54 := of_decide_eq_true c54
       refine zr<|U<|zf<|zs<|W.sr<|v_field_addr X Tryz.underlying32 X Tryz.sizeOf30 X X<|v_load_cells1 (j := 4) st52.sub (hc5.up (((le10.trans le18).trans le27).trans le51)) X X X Tryz.isAgg30 X<|v_mvI X X ?_
       have hv : ∃ y_, (p.voters)[j]? = some y_ := ⟨_, List.getElem?_eq_getElem (by omega)⟩
       obtain ⟨v, hv⟩ := hv
       obtain ⟨b55, o56, _, he58, hc57, hr_v⟩ := Sl.elem (p_f4.up ((((le4.trans le10).trans le18).trans le27).trans le51)) hv
       obtain ⟨v59, rfl, f60⟩ := hr_v
       have f60_b := f60.le
       refine v_index_el he58 X X (hk := X) (hu := Tryz.underlying30) (hz := Tryz.sizeOf79) X<|v_field_addr X Tryz.underlying79 X Tryz.sizeOf42 X X<|v_load_cells1 (j := 2) st52.sub hc57 X X X Tryz.isAgg42 X<|v_len f60 X Tryz.underlying42 X<|v_gtr X X X<|Y ?_
       refine zh rfl (fun c61 => ?_) (fun c61 => ?_)
       ·
        replace c61 := of_decide_eq_true c61
        refine W.sr<|v_asB X X<|Y<|zo<|zn<|E<|E<|zn<|E<|za Tryz.results15 ?_
        refine ⟨h50, _, rfl, st52.done, ?_⟩
        refine zj ?_
        rw [small_nov hv (by omega)]; rfl
       ·
        replace c61 := of_decide_eq_false c61
        refine zr<|zw<|U<|zg<|v_mvI X X<|v_add X X t_om X<|v_asI X X<|Y ?_
        refine ⟨⟨j + 1, h50⟩, ⟨rfl, trivial⟩, ?_, ⟨le51, st52, ?_, ?_⟩, ?_⟩
        ·exact zH
        ·first | omega | (simp; omega)
        ·rw [all_snocB hv, hV, Bool.true_and]; exact decide_eq_true (by omega)
        ·show p.voters.length - ((j + 1)) < p.voters.length - j
         omega
      ·
       replace c54 := of_decide_eq_false c54
       refine zL<|ze<|ze<|zF<|U<|W.sr<|v_asB X X<|Y<|zo<|za Tryz.results15 ?_
       refine ⟨h50, _, rfl, st52.done, ?_⟩
       refine zj ?_
       rw [small_yes (by simp_all) (by simp_all) (by omega) (by omega) hA (by omega) hV (by omega)]; rfl
set_option maxRecDepth 4000 in
theorem c_postilref07_Twin {h : Heap} {w : World} (hs : Sub h w) {p : Poll} {p_v0 : Value} (p_f0 : Sl LChapter h p_v0 p.text.chapters) {p_v1 : Value} (p_f1 : Sl LRule h p_v1 p.lexicon.rules) {p_v2 : Value} (p_f2 : Sl LDecision h p_v2 p.lexicon.decisions) {p_v3 : Value} (p_f3 : Sl LQuestion h p_v3 p.questions) {p_v4 : Value} (p_f4 : Sl LVoter h p_v4 p.voters) (hsm : smallP p = true) : Calls Tryz.prog 16 #[.agg #[p_v0, p_v1, p_v2, p_v3, p_v4]] w (Rets h w (fun h' _ res_ => ∃ u0 u1 u2 u3 u4, res_ = .agg #[u0, u1, u2, u3, u4] ∧ Sl LChapter h' u0 (p).text.chapters ∧ Sl LRule h' u1 (p).lexicon.rules ∧ Sl LDecision h' u2 (p).lexicon.decisions ∧ Sl LQuestion h' u3 (p).questions ∧ Sl LVoter h' u4 (p).voters)) := by
 refine zz (n := 68) (args := [.agg #[p_v0, p_v1, p_v2, p_v3, p_v4]]) Tryz.func16 X X X ?_
 have st0 : St h w h w [] := St.start hs
 have p_f0_b := p_f0.le
 have p_f1_b := p_f1.le
 have p_f2_b := p_f2.le
 have p_f3_b := p_f3.le
 have p_f4_b := p_f4.le
 obtain ⟨hs1, hs2, hs3, hs4⟩ := smallP_len hsm
 refine W.sr<|zy st0 (cs := [p_v0, p_v1, p_v2, p_v3, p_v4]) X X X ?_
 intro b1 w2 h3 le4 hc5 st6
 refine zD st6 Tryz.zeroValue32 X X ?_
 intro b7 w8 st9
 refine Y<|zf<|zad (er := ([], [], [], [], 0)) (dsts := [7, 8, 9, 10, 11, 12, 13, 3]) st9 Tryz.mixed<|zq 0 [] X t_kr t_kr X X (fun hD wD τD hL hS hO  => (zA X Tryz.underlying32 X Tryz.sizeOf24 X))<|zq 1 [0] X t_kr t_kr X X (fun hD wD τD hL hS hO _ _ => (r_load_cellsN (j := 0) (hL.sub hS) hc5 (us := [p_v0]) X X Tryz.isAgg24 Tryz.sizeOf24 X X)) ?_
 refine zJ 2 (.res (fun h' res_ => ∃ gv2_0, res_ = .agg #[gv2_0] ∧ Sl LChapter h' gv2_0 ((p.text)).chapters) (by rintro _ _ _ hl ⟨gv2_0, e_, gf2_0⟩; exact ⟨gv2_0, e_, gf2_0.up hl⟩)) [0] rfl t_kr t_kr ?_ ?_
 ·
  intro hD wD τD hL hS hO _ _
  have st10 := St.start hS
  refine zi st10 rfl rfl rfl Tryz.call52 rfl (c_postilref01_Twin st10.sub (t := p.text) (p_f0.up (le4.trans hL)) (by exact hs1)) ?_
  intro r11 w12 h13 le14 st15 q16
  obtain ⟨v17, rfl, f18⟩ := q16
  have f18_b := f18.le
  exact zt ⟨_, _, rfl, st15, _, rfl, ⟨_, rfl, f18⟩⟩
 refine zq 3 [] X t_kr t_kr X X (fun hD wD τD hL hS hO  => (zA X Tryz.underlying32 X Tryz.sizeOf28 X))<|zq 4 [0] X t_kr t_kr X X (fun hD wD τD hL hS hO _ _ => (r_load_cellsN (j := 1) (hL.sub hS) hc5 (us := [p_v1, p_v2]) X X Tryz.isAgg28 Tryz.sizeOf28 X X)) ?_
 refine zJ 5 (.res (fun h' res_ => ∃ gv5_0 gv5_1, res_ = .agg #[gv5_0, gv5_1] ∧ Sl LRule h' gv5_0 ((p.lexicon)).rules ∧ Sl LDecision h' gv5_1 ((p.lexicon)).decisions) (by rintro _ _ _ hl ⟨gv5_0, gv5_1, e_, gf5_0, gf5_1⟩; exact ⟨gv5_0, gv5_1, e_, gf5_0.up hl, gf5_1.up hl⟩)) [0, 2] rfl t_kr t_kr ?_ ?_
 ·
  intro hD wD τD hL hS hO _ _ gv2_ gf2_
  obtain ⟨gv2_0, rfl, gf2_0⟩ := gf2_
  have st19 := St.start hS
  refine zi st19 rfl rfl rfl Tryz.call53 rfl (c_postilref04_Twin st19.sub (x := p.lexicon) (p_f1.up (le4.trans hL)) (p_f2.up (le4.trans hL)) (by exact hs2)) ?_
  intro r20 w21 h22 le23 st24 q25
  obtain ⟨v26, v28, rfl, f27, f29⟩ := q25
  have f27_b := f27.le
  have f29_b := f29.le
  exact zt ⟨_, _, rfl, st24, _, rfl, ⟨_, _, rfl, f27, f29⟩⟩
 refine zJ 6 (.res (fun h' res_ => ∃ gv6_0 gv6_1 gv6_2, res_ = .agg #[gv6_0, gv6_1, gv6_2, (.slice none 0 0), (.slice none 0 0)] ∧ Sl LChapter h' gv6_0 ((Poll.mk (Text.mk (((p.text)).chapters)) (Lexicon.mk (((p.lexicon)).rules) (((p.lexicon)).decisions)) [] [])).text.chapters ∧ Sl LRule h' gv6_1 ((Poll.mk (Text.mk (((p.text)).chapters)) (Lexicon.mk (((p.lexicon)).rules) (((p.lexicon)).decisions)) [] [])).lexicon.rules ∧ Sl LDecision h' gv6_2 ((Poll.mk (Text.mk (((p.text)).chapters)) (Lexicon.mk (((p.lexicon)).rules) (((p.lexicon)).decisions)) [] [])).lexicon.decisions) (by rintro _ _ _ hl ⟨gv6_0, gv6_1, gv6_2, e_, gf6_0, gf6_1, gf6_2⟩; exact ⟨gv6_0, gv6_1, gv6_2, e_, gf6_0.up hl, gf6_1.up hl, gf6_2.up hl⟩)) [3, 0] rfl t_kr t_kr ?_ ?_
 ·
  intro hD wD τD hL hS hO gv2_ gf2_ gv5_ gf5_
  obtain ⟨gv2_0, rfl, gf2_0⟩ := gf2_
  obtain ⟨gv5_0, gv5_1, rfl, gf5_0, gf5_1⟩ := gf5_
  have st30 := St.start hS
  refine zk rfl rfl (r_build (cs := [gv2_0, gv5_0, gv5_1, (.slice none 0 0), (.slice none 0 0)]) (by obtain ⟨_, _, rfl⟩ := Sl.form gf2_0; obtain ⟨_, _, rfl⟩ := Sl.form gf5_0; obtain ⟨_, _, rfl⟩ := Sl.form gf5_1; kernel_rfl)) ?_
  exact zt ⟨_, _, rfl, st30, _, rfl, ⟨_, _, _, rfl, gf2_0, gf5_0, gf5_1⟩⟩
 refine Drw.al Tryz.zeroValue32 X<|Drw.ch<|Drw.nil X X X X X X ⟨t_kr, X, t_kr, X, t_kr, X, X, t_kr, (cx_cons X cx_nil)⟩ ?_
 intro b31
 intro hE33 w34 _ le35 st36 _ _ _ _ gv2_x32 gf2_x32 _ _ _ _ gv5_x32 gf5_x32 gv6_x32 gf6_x32
 obtain ⟨gv2_0x32, rfl, gf2_0x32⟩ := gf2_x32
 obtain ⟨gv5_0x32, gv5_1x32, rfl, gf5_0x32, gf5_1x32⟩ := gf5_x32
 obtain ⟨gv6_0x32, gv6_1x32, gv6_2x32, rfl, gf6_0x32, gf6_1x32, gf6_2x32⟩ := gf6_x32
 refine zC st36 (k := 1) X X X (zp gf6_0x32.one (zp gf6_1x32.one (zp gf6_2x32.one (zp X (zp X zQ))))) Tryz.sizeOf32 X X X ?_
 intro w37 st38
 refine zt ⟨undef, rfl, _, _, Le.refl _, st38, ?_⟩
 intro hE39 w40 _ le41 st42 _ _ _ _ gv2_x43 gf2_x43 _ _ _ _ gv5_x43 gf5_x43 gv6_x43 gf6_x43
 obtain ⟨gv2_0x43, rfl, gf2_0x43⟩ := gf2_x43
 obtain ⟨gv5_0x43, gv5_1x43, rfl, gf5_0x43, gf5_1x43⟩ := gf5_x43
 obtain ⟨gv6_0x43, gv6_1x43, gv6_2x43, rfl, gf6_0x43, gf6_1x43, gf6_2x43⟩ := gf6_x43
 refine AllDeps.fin X<|U<|zf<|W.sr<|v_asI X X<|Y<|zs ?_
 have st47 := st42.snoc
 have f48 := OSl.nil LQuestion 84 hE39
 refine zG [4, 14, 15, 16, 17, 18, 19, 20, 21, 22, 23, 24, 25, 26, 27, 28, 29, 30, 31, 32, 33, 34, 35, 36, 37, 38, 39, 40] (G := Nat × Value × List (Nat × Obj) × Heap) (fun ⟨i, v_c1_3, o_c1_3, h44⟩ => [(4, .int .i64 (i : Int))]) (fun ⟨i, v_c1_3, o_c1_3, h44⟩ w' => Le hE39 h44 ∧ St h w h44 w' [[(b7, .cells (List.toArray [(.slice none 0 0), (.slice none 0 0), (.slice none 0 0), (.slice none 0 0), (.slice none 0 0)]) 32)], [(b31, .cells (List.toArray [gv6_0x32, gv6_1x32, gv6_2x32, v_c1_3, (.slice none 0 0)]) 32)], o_c1_3] ∧ (OSl LQuestion 84 h44 v_c1_3 (p.questions.take i) o_c1_3) ∧ (i ≤ p.questions.length)) (fun ⟨i, v_c1_3, o_c1_3, h44⟩ => p.questions.length - i) ⟨0, (.slice none 0 0), [], hE39⟩ ⟨rfl, trivial⟩ ⟨Le.refl _, st47, (OSl.to f48 (by simp)), zK⟩ ?_
 rintro ⟨i, v_c1_3, o_c1_3, h44⟩ _ w49 ⟨le45, st46, hO_c1_3, hi⟩
 refine zf<|W.sr<|v_mvI X X<|v_field_addr X Tryz.underlying32 X Tryz.sizeOf29 X X<|v_load_cells1 (j := 3) st46.sub (hc5.up ((le35.trans le41).trans le45)) X X X Tryz.isAgg29 X<|v_len (p_f3.up (((le4.trans le35).trans le41).trans le45)) X Tryz.underlying29 X<|v_lss X X X<|Y ?_
 refine zh rfl (fun c50 => ?_) (fun c50 => ?_)
 ·
  replace c50 := of_decide_eq_true c50
  refine zr<|U<|zf<|zs ?_
  have hq : ∃ y_, (p.questions)[i]? = some y_ := ⟨_, List.getElem?_eq_getElem (by omega)⟩
  obtain ⟨q, hq⟩ := hq
  obtain ⟨b51, o52, _, he54, hc53, hr_q⟩ := Sl.elem (p_f3.up (((le4.trans le35).trans le41).trans le45)) hq
  obtain ⟨v55, rfl, f56⟩ := hr_q
  have f56_b := f56.le
  have hqh := smallP_q hsm hq
  refine zad (er := ([1], [], [], [], 0)) (dsts := [21, 22, 23, 24, 25, 26, 27, 28, 29, 30, 31, 32, 33, 34, 35, 36, 37, 38, 39, 40]) st46 Tryz.mixed<|zq 0 [] X t_kr t_kr X X (fun hD wD τD hL hS hO  => (zA X Tryz.underlying32 X Tryz.sizeOf29 X))<|zq 1 [0] X t_kr t_kr X X (fun hD wD τD hL hS hO _ _ => (r_load_b1 ((hO X).get (k := 1) X) X X Tryz.isAgg29))<|zq 2 [] X t_kr t_kr X X (fun hD wD τD hL hS hO  => (zA X Tryz.underlying32 X Tryz.sizeOf29 X))<|zq 3 [0] X t_kr t_kr X X (fun hD wD τD hL hS hO _ _ => (zc (j := 3) (hL.sub hS) (hc5.up ((le35.trans le41).trans le45)) X X X Tryz.isAgg29))<|zq 4 [] X t_kr t_kr X X (fun hD wD τD hL hS hO  => (r_mvI X))<|zq 5 [1, 0] X t_kr t_kr X X (fun hD wD τD hL hS hO _ _ _ _ => (zE he54 X X (hk := X) (hu := Tryz.underlying29) (hz := Tryz.sizeOf84)))<|zq 6 [0] X t_kr t_kr X X (fun hD wD τD hL hS hO _ _ => (zA X Tryz.underlying84 X Tryz.sizeOf70 X))<|zq 7 [0] X t_kr t_kr X X (fun hD wD τD hL hS hO _ _ => (r_load_cellsN (j := 0) (hL.sub hS) hc53 (us := [.int .i64 (q.at_.chapter), .int .i64 (q.at_.line), .int .i64 (q.at_.word)]) X X Tryz.isAgg70 Tryz.sizeOf70 X X)) ?_
  refine zJ 8 (.res (fun _ res_ => ∃ p, res_ = .slice p 0 0) (fun _ _ _ _ f => f)) [] rfl t_kr t_kr ?_ ?_
  ·
   intro hD wD τD hL hS hO 
   have st57 := St.start hS
   refine OpsL.sliceZ st57 X ⟨_, Tryz.sizeOf72⟩ Tryz.underlying82 ?_
   intro v58 w59 f60 st61
   exact zt ⟨_, _, rfl, st61, _, rfl, f60⟩
  refine zq 9 [] X t_kr t_kr X X (fun hD wD τD hL hS hO  => (zA X Tryz.underlying32 X Tryz.sizeOf29 X))<|zq 10 [0] X t_kr t_kr X X (fun hD wD τD hL hS hO _ _ => (zc (j := 3) (hL.sub hS) (hc5.up ((le35.trans le41).trans le45)) X X X Tryz.isAgg29))<|zq 11 [] X t_kr t_kr X X (fun hD wD τD hL hS hO  => (r_mvI X))<|zq 12 [1, 0] X t_kr t_kr X X (fun hD wD τD hL hS hO _ _ _ _ => (zE he54 X X (hk := X) (hu := Tryz.underlying29) (hz := Tryz.sizeOf84)))<|zq 13 [0] X t_kr t_kr X X (fun hD wD τD hL hS hO _ _ => (zA X Tryz.underlying84 X Tryz.sizeOf82 X))<|zq 14 [0] X t_kr t_kr X X (fun hD wD τD hL hS hO _ _ => (zc (j := 3) (hL.sub hS) hc53 X X X Tryz.isAgg82)) ?_
  refine zJ 15 (.res (fun h' res_ => Sl LHead h' res_ q.heads) (fun _ _ _ hl f => f.up hl)) [6, 0] rfl t_kr t_kr ?_ ?_
  ·
   intro hD wD τD hL hS hO gv8_ gf8_ _ _
   have st62 := St.start hS
   have st63 := st62.snoc
   have f64 := OSl.nil LHead 72 hD
   have f65 := OSl.nil0 LHead 72 hD gf8_
   refine zaf (k := 0) (nb := 24) st63 f65 rfl (f56.up hL) rfl rfl rfl Tryz.underlying82 Tryz.info72 rfl rfl rfl (by decide) rfl (by simp only [List.length_take, List.length_append, List.length_cons, List.length_nil, List.nil_append]; omega) (by simp only [List.length_take, List.length_append, List.length_cons, List.length_nil, List.nil_append]; omega) ?_
   intro v66 o67 w68 _ e69 f70 st71
   subst e69
   obtain ⟨h72, le73, f74, st75⟩ := OSl.freeze (k := 0) st71 f70 rfl (by simp only [List.length_take, List.length_append, List.length_cons, List.length_nil, List.nil_append]; omega)
   exact zt ⟨_, _, rfl, st75.done, _, rfl, f74⟩
  refine zJ 16 (.res (fun h' res_ => ∃ gv16_0, res_ = .agg #[.int .i64 ((Question.mk (q.at_) (q.heads))).at_.chapter, .int .i64 ((Question.mk (q.at_) (q.heads))).at_.line, .int .i64 ((Question.mk (q.at_) (q.heads))).at_.word, gv16_0] ∧ Sl LHead h' gv16_0 ((Question.mk (q.at_) (q.heads))).heads) (by rintro _ _ _ hl ⟨gv16_0, e_, gf16_0⟩; exact ⟨gv16_0, e_, gf16_0.up hl⟩)) [8, 0] rfl t_kr t_kr ?_ ?_
  ·
   intro hD wD τD hL hS hO _ _ gv15_0 gf15_0
   have st76 := St.start hS
   refine zk rfl rfl (r_build (cs := [.int .i64 (q.at_.chapter), .int .i64 (q.at_.line), .int .i64 (q.at_.word), gv15_0]) (by obtain ⟨_, _, rfl⟩ := Sl.form gf15_0; kernel_rfl)) ?_
   exact zt ⟨_, _, rfl, st76, _, rfl, ⟨_, rfl, gf15_0⟩⟩
  refine zJ 17 (.res (fun h' res_ => Sl LQuestion h' res_ ([(Question.mk (q.at_) (q.heads))])) (fun _ _ _ hl f => f.up hl)) [0] rfl t_kr t_kr ?_ ?_
  ·
   intro hD wD τD hL hS hO gv16_ gf16_
   obtain ⟨gv16_0, rfl, gf16_0⟩ := gf16_
   have st77 := St.start hS
   refine zN (L := LQuestion) (xs := [(Question.mk (q.at_) (q.heads))]) (cs := [.int .i64 ((Question.mk (q.at_) (q.heads))).at_.chapter, .int .i64 ((Question.mk (q.at_) (q.heads))).at_.line, .int .i64 ((Question.mk (q.at_) (q.heads))).at_.word, gv16_0]) st77 (Enc.cons (L := LQuestion) (vs := [.int .i64 ((Question.mk (q.at_) (q.heads))).at_.chapter, .int .i64 ((Question.mk (q.at_) (q.heads))).at_.line, .int .i64 ((Question.mk (q.at_) (q.heads))).at_.word, gv16_0]) (x := (Question.mk (q.at_) (q.heads))) (h := hD) (⟨_, X, gf16_0⟩) Enc.nil) X X X Tryz.underlying29 Tryz.info84 X X X t_kr ?_
   intro v78 w79 h82 le83 f80 st81
   exact zt ⟨_, _, rfl, st81, _, rfl, f80⟩
  refine Drw.ch<|zq 19 [18, 17, 16, 15, 14, 13, 12, 11, 10, 9, 8, 7, 6, 5, 4, 3, 2, 1, 0] X t_kr t_kr X X (fun hD wD τD hL hS hO _ _ _ _ _ _ _ _ _ _ _ _ _ _ _ _ gv8_ gf8_ _ _ _ _ _ _ _ _ _ _ _ _ gv15_0 gf15_0 gv16_ gf16_ gv17_0 gf17_0 => (zA X Tryz.underlying32 X Tryz.sizeOf29 X))<|Drw.ch<|Drw.nil X X X X X X ⟨t_kr, X, t_kr, X, t_kr, X, X, t_kr, (cx_cons X (cx_cons X cx_nil))⟩ ?_
  intro hE85 w86 _ le87 st88 _ _ gv17_0x84 gf17_0x84 gv15_0x84 gf15_0x84
  refine zaf (k := 2) (nb := 48) st88 (hO_c1_3.up le87) rfl gf17_0x84 rfl rfl rfl Tryz.underlying29 Tryz.info84 rfl rfl rfl (by decide) rfl (by simp only [List.length_take, List.length_append, List.length_cons, List.length_nil, List.nil_append]; omega) (by simp only [List.length_take, List.length_append, List.length_cons, List.length_nil, List.nil_append]; omega) ?_
  intro v89 o90 w91 _ e92 f93 st94
  subst e92
  refine zt ⟨_, rfl, _, _, Le.refl _, st94, ?_⟩
  intro hE96 w97 _ le98 st99 _ _ _ _ _ _ _ _ _ _ _ _ _ _ _ _ _ _ gv8_x95 gf8_x95 _ _ _ _ _ _ _ _ _ _ _ _ gv15_0x95 gf15_0x95 gv16_x95 gf16_x95 gv17_0x95 gf17_0x95
  obtain ⟨gv16_0x95, rfl, gf16_0x95⟩ := gf16_x95
  refine zO st99 (k := 1) X X (v := v89) X f93.one Tryz.sizeOf29 X X X ?_
  intro w100 st101
  refine zt ⟨undef, rfl, _, _, Le.refl _, st101, ?_⟩
  intro hE102 w103 _ le104 st105 _ _ _ _ _ _ _ _ _ _ _ _ _ _ _ _ gv8_x106 gf8_x106 _ _ _ _ _ _ _ _ _ _ _ _ gv15_0x106 gf15_0x106 gv16_x106 gf16_x106 gv17_0x106 gf17_0x106 _ _
  obtain ⟨gv16_0x106, rfl, gf16_0x106⟩ := gf16_x106
  refine AllDeps.fin X<|zw<|U<|zg<|v_mvI X X<|v_add X X t_om X<|v_asI X X<|Y ?_
  refine ⟨⟨i + 1, v89, o90, hE102⟩, ⟨rfl, trivial⟩, ?_, ⟨(((le45.trans le87).trans le98).trans le104), st105, ?_, ?_⟩, ?_⟩
  ·exact zH
  ·refine OSl.to (f93.up (le98.trans le104)) ?_
   rw [take_snoc hq]
  ·first | omega | (simp; omega)
  ·show p.questions.length - ((i + 1)) < p.questions.length - i
   omega
 ·
  replace c50 := of_decide_eq_false c50
  refine zL<|ze<|ze<|zF<|U<|zf<|W.sr<|v_asI X X<|Y<|zs ?_
  have st110 := st46.snoc
  have f111 := OSl.nil LVoter 79 h44
  refine zG [5, 6, 41, 42, 43, 44, 45, 46, 47, 48, 49, 50, 51, 52, 53, 54, 55, 56, 57, 58, 59, 60, 61, 62, 63, 64, 65, 66] (G := Nat × Value × List (Nat × Obj) × Heap) (fun ⟨k, v_c1_4, o_c1_4, h107⟩ => [(5, .int .i64 (k : Int))]) (fun ⟨k, v_c1_4, o_c1_4, h107⟩ w' => Le h44 h107 ∧ St h w h107 w' [[(b7, .cells (List.toArray [(.slice none 0 0), (.slice none 0 0), (.slice none 0 0), (.slice none 0 0), (.slice none 0 0)]) 32)], [(b31, .cells (List.toArray [gv6_0x32, gv6_1x32, gv6_2x32, v_c1_3, v_c1_4]) 32)], o_c1_3, o_c1_4] ∧ (OSl LVoter 79 h107 v_c1_4 (p.voters.take k) o_c1_4) ∧ (k ≤ p.voters.length)) (fun ⟨k, v_c1_4, o_c1_4, h107⟩ => p.voters.length - k) ⟨0, (.slice none 0 0), [], h44⟩ ⟨rfl, trivial⟩ ⟨Le.refl _, st110, (OSl.to f111 (by simp)), zK⟩ ?_
  rintro ⟨k, v_c1_4, o_c1_4, h107⟩ _ w112 ⟨le108, st109, hO_c1_4, hk⟩
  refine zf<|W.sr<|v_mvI X X<|v_field_addr X Tryz.underlying32 X Tryz.sizeOf30 X X<|v_load_cells1 (j := 4) st109.sub (hc5.up (((le35.trans le41).trans le45).trans le108)) X X X Tryz.isAgg30 X<|v_len (p_f4.up ((((le4.trans le35).trans le41).trans le45).trans le108)) X Tryz.underlying30 X<|v_lss X X X<|Y ?_
  refine zh rfl (fun c113 => ?_) (fun c113 => ?_)
  ·
   replace c113 := of_decide_eq_true c113
   refine zr<|U<|zf<|zs<|W.sr<|v_field_addr X Tryz.underlying32 X Tryz.sizeOf30 X X<|v_load_cells1 (j := 4) st109.sub (hc5.up (((le35.trans le41).trans le45).trans le108)) X X X Tryz.isAgg30 X<|v_mvI X X ?_
   have hv : ∃ y_, (p.voters)[k]? = some y_ := ⟨_, List.getElem?_eq_getElem (by omega)⟩
   obtain ⟨v, hv⟩ := hv
   obtain ⟨b114, o115, _, he117, hc116, hr_v⟩ := Sl.elem (p_f4.up ((((le4.trans le35).trans le41).trans le45).trans le108)) hv
   obtain ⟨v118, rfl, f119⟩ := hr_v
   have f119_b := f119.le
   refine v_index_el he117 X X (hk := X) (hu := Tryz.underlying30) (hz := Tryz.sizeOf79) X ?_
   have hvh := smallP_v hsm hv
   refine v_load_call st109.sub hc116 X Tryz.isAgg79 Tryz.sizeOf79 X X<|zD st109 Tryz.zeroValue79 X X ?_
   intro b120 w121 st122
   refine zC st122 (k := 4) X X X (zp X (zp X (zp f119.one zQ))) Tryz.sizeOf79 X X X ?_
   intro w123 st124
   obtain ⟨h125, le126, hb127, st129⟩ := st124.freeze (k := 4) rfl
   have hc128 := Cells.of hb127
   refine Y<|zad (er := ([1], [], [], [], 0)) (dsts := [53, 54, 55, 56, 57, 58, 59, 60, 61, 62, 63, 64, 65, 66]) st129 Tryz.mixed<|zq 0 [] X t_kr t_kr X X (fun hD wD τD hL hS hO  => (zA X Tryz.underlying32 X Tryz.sizeOf30 X))<|zq 1 [0] X t_kr t_kr X X (fun hD wD τD hL hS hO _ _ => (r_load_b1 ((hO X).get (k := 1) X) X X Tryz.isAgg30))<|zq 2 [] X t_kr t_kr X X (fun hD wD τD hL hS hO  => (zA X Tryz.underlying79 X Tryz.sizeOf3 X))<|zq 3 [0] X t_kr t_kr X X (fun hD wD τD hL hS hO _ _ => (zc (j := 0) (hL.sub hS) hc128 X X X Tryz.isAgg3))<|zq 4 [] X t_kr t_kr X X (fun hD wD τD hL hS hO  => (zA X Tryz.underlying79 X Tryz.sizeOf3 X))<|zq 5 [0] X t_kr t_kr X X (fun hD wD τD hL hS hO _ _ => (zc (j := 1) (hL.sub hS) hc128 X X X Tryz.isAgg3)) ?_
   refine zJ 6 (.res (fun _ res_ => ∃ p, res_ = .slice p 0 0) (fun _ _ _ _ f => f)) [] rfl t_kr t_kr ?_ ?_
   ·
    intro hD wD τD hL hS hO 
    have st130 := St.start hS
    refine OpsL.sliceZ st130 X ⟨_, Tryz.sizeOf3⟩ Tryz.underlying42 ?_
    intro v131 w132 f133 st134
    exact zt ⟨_, _, rfl, st134, _, rfl, f133⟩
   refine zq 7 [] X t_kr t_kr X X (fun hD wD τD hL hS hO  => (zA X Tryz.underlying79 X Tryz.sizeOf42 X))<|zq 8 [0] X t_kr t_kr X X (fun hD wD τD hL hS hO _ _ => (zc (j := 2) (hL.sub hS) hc128 X X X Tryz.isAgg42)) ?_
   refine zJ 9 (.res (fun h' res_ => Sl LInt h' res_ v.votes) (fun _ _ _ hl f => f.up hl)) [2, 0] rfl t_kr t_kr ?_ ?_
   ·
    intro hD wD τD hL hS hO gv6_ gf6_ _ _
    have st135 := St.start hS
    have st136 := st135.snoc
    have f137 := OSl.nil LInt 3 hD
    have f138 := OSl.nil0 LInt 3 hD gf6_
    refine zaf (k := 0) (nb := 8) st136 f138 rfl (f119.up (le126.trans hL)) rfl rfl rfl Tryz.underlying42 Tryz.info3 rfl rfl rfl (by decide) rfl (by simp only [List.length_take, List.length_append, List.length_cons, List.length_nil, List.nil_append]; omega) (by simp only [List.length_take, List.length_append, List.length_cons, List.length_nil, List.nil_append]; omega) ?_
    intro v139 o140 w141 _ e142 f143 st144
    subst e142
    obtain ⟨h145, le146, f147, st148⟩ := OSl.freeze (k := 0) st144 f143 rfl (by simp only [List.length_take, List.length_append, List.length_cons, List.length_nil, List.nil_append]; omega)
    exact zt ⟨_, _, rfl, st148.done, _, rfl, f147⟩
   refine zJ 10 (.res (fun h' res_ => ∃ gv10_0, res_ = .agg #[.int .i64 ((Voter.mk ((v.id)) ((v.wrong)) (v.votes))).id, .int .i64 ((Voter.mk ((v.id)) ((v.wrong)) (v.votes))).wrong, gv10_0] ∧ Sl LInt h' gv10_0 ((Voter.mk ((v.id)) ((v.wrong)) (v.votes))).votes) (by rintro _ _ _ hl ⟨gv10_0, e_, gf10_0⟩; exact ⟨gv10_0, e_, gf10_0.up hl⟩)) [6, 4, 0] rfl t_kr t_kr ?_ ?_
   ·
    intro hD wD τD hL hS hO _ _ _ _ gv9_0 gf9_0
    have st149 := St.start hS
    refine zk rfl rfl (r_build (cs := [.int .i64 (v.id), .int .i64 (v.wrong), gv9_0]) (by obtain ⟨_, _, rfl⟩ := Sl.form gf9_0; kernel_rfl)) ?_
    exact zt ⟨_, _, rfl, st149, _, rfl, ⟨_, rfl, gf9_0⟩⟩
   refine zJ 11 (.res (fun h' res_ => Sl LVoter h' res_ ([(Voter.mk ((v.id)) ((v.wrong)) (v.votes))])) (fun _ _ _ hl f => f.up hl)) [0] rfl t_kr t_kr ?_ ?_
   ·
    intro hD wD τD hL hS hO gv10_ gf10_
    obtain ⟨gv10_0, rfl, gf10_0⟩ := gf10_
    have st150 := St.start hS
    refine zN (L := LVoter) (xs := [(Voter.mk ((v.id)) ((v.wrong)) (v.votes))]) (cs := [.int .i64 ((Voter.mk ((v.id)) ((v.wrong)) (v.votes))).id, .int .i64 ((Voter.mk ((v.id)) ((v.wrong)) (v.votes))).wrong, gv10_0]) st150 (Enc.cons (L := LVoter) (vs := [.int .i64 ((Voter.mk ((v.id)) ((v.wrong)) (v.votes))).id, .int .i64 ((Voter.mk ((v.id)) ((v.wrong)) (v.votes))).wrong, gv10_0]) (x := (Voter.mk ((v.id)) ((v.wrong)) (v.votes))) (h := hD) (⟨_, X, gf10_0⟩) Enc.nil) X X X Tryz.underlying30 Tryz.info79 X X X t_kr ?_
    intro v151 w152 h155 le156 f153 st154
    exact zt ⟨_, _, rfl, st154, _, rfl, f153⟩
   refine Drw.ch<|zq 13 [12, 11, 10, 9, 8, 7, 6, 5, 4, 3, 2, 1, 0] X t_kr t_kr X X (fun hD wD τD hL hS hO _ _ _ _ _ _ _ _ _ _ _ _ gv6_ gf6_ _ _ _ _ gv9_0 gf9_0 gv10_ gf10_ gv11_0 gf11_0 => (zA X Tryz.underlying32 X Tryz.sizeOf30 X))<|Drw.ch<|Drw.nil X X X X X X ⟨t_kr, X, t_kr, X, t_kr, X, X, t_kr, (cx_cons X (cx_cons X cx_nil))⟩ ?_
   intro hE158 w159 _ le160 st161 _ _ gv11_0x157 gf11_0x157 gv9_0x157 gf9_0x157
   refine zaf (k := 3) (nb := 40) st161 (hO_c1_4.up (le126.trans le160)) rfl gf11_0x157 rfl rfl rfl Tryz.underlying30 Tryz.info79 rfl rfl rfl (by decide) rfl (by simp only [List.length_take, List.length_append, List.length_cons, List.length_nil, List.nil_append]; omega) (by simp only [List.length_take, List.length_append, List.length_cons, List.length_nil, List.nil_append]; omega) ?_
   intro v162 o163 w164 _ e165 f166 st167
   subst e165
   refine zt ⟨_, rfl, _, _, Le.refl _, st167, ?_⟩
   intro hE169 w170 _ le171 st172 _ _ _ _ _ _ _ _ _ _ _ _ _ _ gv6_x168 gf6_x168 _ _ _ _ gv9_0x168 gf9_0x168 gv10_x168 gf10_x168 gv11_0x168 gf11_0x168
   obtain ⟨gv10_0x168, rfl, gf10_0x168⟩ := gf10_x168
   refine zO st172 (k := 1) X X (v := v162) X f166.one Tryz.sizeOf30 X X X ?_
   intro w173 st174
   refine zt ⟨undef, rfl, _, _, Le.refl _, st174, ?_⟩
   intro hE175 w176 _ le177 st178 _ _ _ _ _ _ _ _ _ _ _ _ gv6_x179 gf6_x179 _ _ _ _ gv9_0x179 gf9_0x179 gv10_x179 gf10_x179 gv11_0x179 gf11_0x179 _ _
   obtain ⟨gv10_0x179, rfl, gf10_0x179⟩ := gf10_x179
   refine AllDeps.fin X<|zw<|U<|zg<|v_mvI X X<|v_add X X t_om X<|v_asI X X<|Y ?_
   refine ⟨⟨k + 1, v162, o163, hE175⟩, ⟨rfl, trivial⟩, ?_, ⟨((((le108.trans le126).trans le160).trans le171).trans le177), st178.take 4, ?_, ?_⟩, ?_⟩
   ·exact zH
   ·refine OSl.to (f166.up (le171.trans le177)) ?_
    rw [take_snoc hv]
   ·first | omega | (simp; omega)
   ·show p.voters.length - ((k + 1)) < p.voters.length - k
    omega
  ·
   replace c113 := of_decide_eq_false c113
   refine zL<|ze<|ze<|zF<|U<|W.sr<|v_load_ball (st109.get (k := 1) X) X Tryz.isAgg32 Tryz.sizeOf32 X X<|zC st109 (k := 0) X X X (zp gf6_0x32.one (zp gf6_1x32.one (zp gf6_2x32.one (zp hO_c1_3.one (zp hO_c1_4.one zQ))))) Tryz.sizeOf32 X X X ?_
   intro w180 st181
   obtain ⟨h182, le183, hb184, st186⟩ := st181.freeze (k := 0) rfl
   have hc185 := Cells.of hb184
   refine Y<|zo<|Post.retcellF Tryz.results16 X Tryz.isAgg32 Tryz.sizeOf32 X st186.sub hc185 ?_
   obtain ⟨h187, le188, f189, st190⟩ := OSl.freeze (k := 2) st186 (hO_c1_3.up (le108.trans le183)) rfl (by simp only [List.length_take, List.length_append, List.length_cons, List.length_nil, List.nil_append]; omega)
   obtain ⟨h191, le192, f193, st194⟩ := OSl.freeze (k := 3) st190 (hO_c1_4.up (le183.trans le188)) rfl (by simp only [List.length_take, List.length_append, List.length_cons, List.length_nil, List.nil_append]; omega)
   refine ⟨h191, _, rfl, st194.done, ?_⟩
   refine ⟨_, _, _, _, _, ?_, Sl.to (gf6_0x32.up (((((le41.trans le45).trans le108).trans le183).trans le188).trans le192)) ?_, Sl.to (gf6_1x32.up (((((le41.trans le45).trans le108).trans le183).trans le188).trans le192)) ?_, Sl.to (gf6_2x32.up (((((le41.trans le45).trans le108).trans le183).trans le188).trans le192)) ?_, Sl.to (f189.up le192) ?_, Sl.to f193 ?_⟩
   all_goals first | rfl | (rw [List.take_of_length_le (by omega)])
set_option maxRecDepth 4000 in
set_option maxHeartbeats 1000000 in
theorem c_postilref07_Same {h : Heap} {w : World} (hs : Sub h w) {a : Poll} {a_v0 : Value} (a_f0 : Sl LChapter h a_v0 a.text.chapters) {a_v1 : Value} (a_f1 : Sl LRule h a_v1 a.lexicon.rules) {a_v2 : Value} (a_f2 : Sl LDecision h a_v2 a.lexicon.decisions) {a_v3 : Value} (a_f3 : Sl LQuestion h a_v3 a.questions) {a_v4 : Value} (a_f4 : Sl LVoter h a_v4 a.voters) {b : Poll} {b_v0 : Value} (b_f0 : Sl LChapter h b_v0 b.text.chapters) {b_v1 : Value} (b_f1 : Sl LRule h b_v1 b.lexicon.rules) {b_v2 : Value} (b_f2 : Sl LDecision h b_v2 b.lexicon.decisions) {b_v3 : Value} (b_f3 : Sl LQuestion h b_v3 b.questions) {b_v4 : Value} (b_f4 : Sl LVoter h b_v4 b.voters) : Calls Tryz.prog 26 #[.agg #[a_v0, a_v1, a_v2, a_v3, a_v4], .agg #[b_v0, b_v1, b_v2, b_v3, b_v4]] w (Rets h w (fun _ _ res_ => res_ = .bool (decide (a = b)))) := by
 refine zz (n := 126) (args := [.agg #[a_v0, a_v1, a_v2, a_v3, a_v4], .agg #[b_v0, b_v1, b_v2, b_v3, b_v4]]) Tryz.func26 X X X ?_
 have st0 : St h w h w [] := St.start hs
 have a_f0_b := a_f0.le
 have a_f1_b := a_f1.le
 have a_f2_b := a_f2.le
 have a_f3_b := a_f3.le
 have a_f4_b := a_f4.le
 have b_f0_b := b_f0.le
 have b_f1_b := b_f1.le
 have b_f2_b := b_f2.le
 have b_f3_b := b_f3.le
 have b_f4_b := b_f4.le
 refine W.sr<|zy st0 (cs := [a_v0, a_v1, a_v2, a_v3, a_v4]) X X X ?_
 intro b1 w2 h3 le4 hc5 st6
 refine zy st6 (cs := [b_v0, b_v1, b_v2, b_v3, b_v4]) X X X ?_
 intro b7 w8 h9 le10 hc11 st12
 refine v_asB X X<|Y<|zf<|W.sr<|v_field_addr X Tryz.underlying32 X Tryz.sizeOf24 X X<|v_load_cellsN (j := 0) st12.sub (hc5.up le10) (us := [a_v0]) X X Tryz.isAgg24 Tryz.sizeOf24 X X X<|v_field_addr X Tryz.underlying32 X Tryz.sizeOf24 X X<|v_load_cellsN (j := 0) st12.sub hc11 (us := [b_v0]) X X Tryz.isAgg24 Tryz.sizeOf24 X X X<|zi st12 X X X Tryz.call74 X (c_postilref01_Same st12.sub (a := a.text) (a_f0.up (le4.trans le10)) (b := b.text) (b_f0.up (le4.trans le10))) ?_
 intro r13 w14 h15 le16 st17 q18
 obtain rfl := q18
 refine v_not X X<|v_mvB X X ?_
 refine zx (d := 13) rfl (fun g19 => ?_) (fun g19 => ?_)
 ·
  refine Z X X X X X<|Z X X X X X<|Z X X X X X<|Z X X X X X<|Z X X X X X<|Z X X X X X<|v_pickT (v := (.bool _)) X X X<|v_mvB X X<|Z X X X X X<|Z X X X X X<|Z X X X X X<|Z X X X X X<|Z X X X X X<|Z X X X X X<|Z X X X X X<|v_pickT (v := (.bool _)) X X X<|v_mvB X X<|Z X X X X X<|Z X X X X X<|Z X X X X X<|Z X X X X X<|Z X X X X X<|Z X X X X X<|Z X X X X X<|v_pickT (v := (.bool _)) X X X<|Y ?_
  refine zh rfl (fun c20 => ?_) (fun c20 => ?_)
  ·
   refine W.sr<|v_asB X X<|Y<|zo<|E<|za Tryz.results26 ?_
   refine ⟨h15, _, rfl, st17.done, ?_⟩
   refine zj ?_
   have q : a ≠ b := by
    rintro rfl
    simp_all
   simp [q]
  ·
   cases c20
 ·
  refine M X X (d := 13) X<|v_field_addr X Tryz.underlying32 X Tryz.sizeOf28 X X<|M X X (d := 13) X<|v_load_cellsN (j := 1) st17.sub (hc5.up (le10.trans le16)) (us := [a_v1, a_v2]) X X Tryz.isAgg28 Tryz.sizeOf28 X X X<|M X X (d := 13) X<|v_field_addr X Tryz.underlying32 X Tryz.sizeOf28 X X<|M X X (d := 13) X<|v_load_cellsN (j := 1) st17.sub (hc11.up le16) (us := [b_v1, b_v2]) X X Tryz.isAgg28 Tryz.sizeOf28 X X X<|M X X (d := 13) X<|zi st17 X X X Tryz.call31 X (c_postilref04_Same st17.sub (a := a.lexicon) (a_f1.up ((le4.trans le10).trans le16)) (a_f2.up ((le4.trans le10).trans le16)) (b := b.lexicon) (b_f1.up ((le4.trans le10).trans le16)) (b_f2.up ((le4.trans le10).trans le16))) ?_
  intro r21 w22 h23 le24 st25 q26
  obtain rfl := q26
  refine M X X (d := 13) X<|v_not X X<|v_pickF (v := (.bool _)) X X X<|v_mvB X X ?_
  refine zx (d := 21) rfl (fun g27 => ?_) (fun g27 => ?_)
  ·
   refine Z X X X X X<|Z X X X X X<|Z X X X X X<|Z X X X X X<|Z X X X X X<|Z X X X X X<|Z X X X X X<|v_pickT (v := (.bool _)) X X X<|v_mvB X X<|Z X X X X X<|Z X X X X X<|Z X X X X X<|Z X X X X X<|Z X X X X X<|Z X X X X X<|Z X X X X X<|v_pickT (v := (.bool _)) X X X<|Y ?_
   refine zh rfl (fun c28 => ?_) (fun c28 => ?_)
   ·
    refine W.sr<|v_asB X X<|Y<|zo<|E<|za Tryz.results26 ?_
    refine ⟨h23, _, rfl, st25.done, ?_⟩
    refine zj ?_
    have q : a ≠ b := by
     rintro rfl
     simp_all
    simp [q]
   ·
    cases c28
  ·
   refine M X X (d := 21) X<|v_field_addr X Tryz.underlying32 X Tryz.sizeOf29 X X<|M X X (d := 21) X<|v_load_cells1 (j := 3) st25.sub (hc5.up ((le10.trans le16).trans le24)) X X X Tryz.isAgg29 X<|M X X (d := 21) X<|v_len (a_f3.up (((le4.trans le10).trans le16).trans le24)) X Tryz.underlying29 X<|M X X (d := 21) X<|v_field_addr X Tryz.underlying32 X Tryz.sizeOf29 X X<|M X X (d := 21) X<|v_load_cells1 (j := 3) st25.sub (hc11.up (le16.trans le24)) X X X Tryz.isAgg29 X<|M X X (d := 21) X<|v_len (b_f3.up (((le4.trans le10).trans le16).trans le24)) X Tryz.underlying29 X<|M X X (d := 21) X<|v_neq X X X<|v_pickF (v := (.bool _)) X X X<|v_mvB X X ?_
   refine zx (d := 30) rfl (fun g29 => ?_) (fun g29 => ?_)
   ·
    replace g29 := of_decide_eq_true g29
    refine Z X X X X X<|Z X X X X X<|Z X X X X X<|Z X X X X X<|Z X X X X X<|Z X X X X X<|Z X X X X X<|v_pickT (v := (.bool _)) X X X<|Y ?_
    refine zh rfl (fun c30 => ?_) (fun c30 => ?_)
    ·
     refine W.sr<|v_asB X X<|Y<|zo<|E<|za Tryz.results26 ?_
     refine ⟨h23, _, rfl, st25.done, ?_⟩
     refine zj ?_
     have q : a ≠ b := by
      rintro rfl
      simp_all
     simp [q]
    ·
     cases c30
   ·
    replace g29 := of_decide_eq_false g29
    refine M X X (d := 30) X<|v_field_addr X Tryz.underlying32 X Tryz.sizeOf30 X X<|M X X (d := 30) X<|v_load_cells1 (j := 4) st25.sub (hc5.up ((le10.trans le16).trans le24)) X X X Tryz.isAgg30 X<|M X X (d := 30) X<|v_len (a_f4.up (((le4.trans le10).trans le16).trans le24)) X Tryz.underlying30 X<|M X X (d := 30) X<|v_field_addr X Tryz.underlying32 X Tryz.sizeOf30 X X<|M X X (d := 30) X<|v_load_cells1 (j := 4) st25.sub (hc11.up (le16.trans le24)) X X X Tryz.isAgg30 X<|M X X (d := 30) X<|v_len (b_f4.up (((le4.trans le10).trans le16).trans le24)) X Tryz.underlying30 X<|M X X (d := 30) X<|v_neq X X X<|v_pickF (v := (.bool _)) X X X<|Y ?_
    refine zh rfl (fun c31 => ?_) (fun c31 => ?_)
    ·
     replace c31 := of_decide_eq_true c31
     refine W.sr<|v_asB X X<|Y<|zo<|E<|za Tryz.results26 ?_
     refine ⟨h23, _, rfl, st25.done, ?_⟩
     refine zj ?_
     have q : a ≠ b := by
      rintro rfl
      simp_all
     simp [q]
    ·
     replace c31 := of_decide_eq_false c31
     refine zr<|U<|zf<|W.sr<|v_asI X X<|Y<|zs ?_
     refine zG [4, 5, 39, 40, 41, 42, 43, 44, 45, 46, 47, 48, 49, 50, 51, 52, 53, 54, 55, 56, 57, 58, 59, 60, 61, 62, 63, 64, 65, 66, 67, 68, 69, 70, 71, 72, 73, 74] (G := Nat × Heap) (fun ⟨i, h32⟩ => [(5, .int .i64 (i : Int))]) (fun ⟨i, h32⟩ w' => Le h23 h32 ∧ St h w h32 w' [] ∧ (i ≤ a.questions.length) ∧ (a.questions.take i = b.questions.take i)) (fun ⟨i, h32⟩ => a.questions.length - i) ⟨0, h23⟩ ⟨rfl, trivial⟩ ⟨Le.refl _, st25, zK, zK⟩ ?_
     rintro ⟨i, h32⟩ _ w35 ⟨le33, st34, hi, he⟩
     refine zf<|W.sr<|v_mvI X X<|v_field_addr X Tryz.underlying32 X Tryz.sizeOf29 X X<|v_load_cells1 (j := 3) st34.sub (hc5.up (((le10.trans le16).trans le24).trans le33)) X X X Tryz.isAgg29 X<|v_len (a_f3.up ((((le4.trans le10).trans le16).trans le24).trans le33)) X Tryz.underlying29 X<|v_lss X X X<|Y ?_
     refine zh rfl (fun c36 => ?_) (fun c36 => ?_)
     ·
      replace c36 := of_decide_eq_true c36
      refine zr<|U<|zf<|zs<|zf<|zS Tryz.mixed t_kr (Cls h32 _) (Cls.drew st34)<|u_field_addr X Tryz.underlying32 X Tryz.sizeOf29 X X<|zm X X (fun _ hC => (zc (j := 3) hC.sub (hc5.up (((le10.trans le16).trans le24).trans le33)) X X X Tryz.isAgg29))<|u_mvI X X ?_
      have hc : ∃ y_, (a.questions)[i]? = some y_ := ⟨_, List.getElem?_eq_getElem (by omega)⟩
      obtain ⟨c, hc⟩ := hc
      obtain ⟨b37, o38, _, he40, hc39, hr_c⟩ := Sl.elem (a_f3.up ((((le4.trans le10).trans le16).trans le24).trans le33)) hc
      obtain ⟨v41, rfl, f42⟩ := hr_c
      have f42_b := f42.le
      refine u_index_el he40 X X (hk := X) (hu := Tryz.underlying29) (hz := Tryz.sizeOf84) X<|u_field_addr X Tryz.underlying84 X Tryz.sizeOf70 X X<|zm X X (fun _ hC => (r_load_cellsN (j := 0) hC.sub hc39 (us := [.int .i64 (c.at_.chapter), .int .i64 (c.at_.line), .int .i64 (c.at_.word)]) X X Tryz.isAgg70 Tryz.sizeOf70 X X))<|u_field_addr X Tryz.underlying32 X Tryz.sizeOf29 X X<|zm X X (fun _ hC => (zc (j := 3) hC.sub (hc11.up ((le16.trans le24).trans le33)) X X X Tryz.isAgg29))<|u_mvI X X ?_
      have hd : ∃ y_, (b.questions)[i]? = some y_ := ⟨_, List.getElem?_eq_getElem (by omega)⟩
      obtain ⟨d, hd⟩ := hd
      obtain ⟨b43, o44, _, he46, hc45, hr_d⟩ := Sl.elem (b_f3.up ((((le4.trans le10).trans le16).trans le24).trans le33)) hd
      obtain ⟨v47, rfl, f48⟩ := hr_d
      have f48_b := f48.le
      refine u_index_el he46 X X (hk := X) (hu := Tryz.underlying29) (hz := Tryz.sizeOf84) X<|u_field_addr X Tryz.underlying84 X Tryz.sizeOf70 X X<|zm X X (fun _ hC => (r_load_cellsN (j := 0) hC.sub hc45 (us := [.int .i64 (d.at_.chapter), .int .i64 (d.at_.line), .int .i64 (d.at_.word)]) X X Tryz.isAgg70 Tryz.sizeOf70 X X))<|zm X X (fun _ _ => (r_stneq X X Tryz.eqGuardType70 (Tryz.eq_Place c.at_ d.at_)))<|u_mvB X X ?_
      refine zW (d := 59) rfl (fun g49 => ?_) (fun g49 => ?_)
      ·
       replace g49 := of_decide_eq_true g49
       refine O X X (d := 59) X X X<|O X X (d := 59) X X X<|O X X (d := 59) X X X<|O X X (d := 59) X X X<|O X X (d := 59) X X X<|O X X (d := 59) X X X<|O X X (d := 59) X X X<|O X X (d := 59) X X X<|O X X (d := 59) X X X<|O X X (d := 59) X X X<|O X X (d := 59) X X X<|O X X (d := 59) X X X<|O X X (d := 59) X X X<|O X X (d := 59) X X X<|u_pickT (v := (.bool _)) X X X<|zI ?_
       rintro w50 ⟨h51, s52⟩
       have st53 := st34.call0 s52
       refine U ?_
       refine zh rfl (fun c54 => ?_) (fun c54 => ?_)
       ·
        refine W.sr<|v_asB X X<|Y<|zo<|zn<|E<|E<|zn<|E<|za Tryz.results26 ?_
        refine ⟨h51, _, rfl, st53.done, ?_⟩
        refine zj ?_
        have q1 : c ≠ d := by
         rintro rfl
         simp_all
        have q : a ≠ b := fun e_ => ne_of_get hc hd q1 (by rw [e_])
        simp [q]
       ·
        cases c54
      ·
       replace g49 := of_decide_eq_false g49
       refine zb X X (d := 59) X<|u_field_addr X Tryz.underlying32 X Tryz.sizeOf29 X X<|zb X X (d := 59) X<|zm X X (fun _ hC => (zc (j := 3) hC.sub (hc5.up (((le10.trans le16).trans le24).trans le33)) X X X Tryz.isAgg29))<|zb X X (d := 59) X<|u_mvI X X<|zb X X (d := 59) X<|u_index_el he40 X X (hk := X) (hu := Tryz.underlying29) (hz := Tryz.sizeOf84) X<|zb X X (d := 59) X<|u_field_addr X Tryz.underlying84 X Tryz.sizeOf82 X X<|zb X X (d := 59) X<|zm X X (fun _ hC => (zc (j := 3) hC.sub hc39 X X X Tryz.isAgg82))<|zb X X (d := 59) X<|u_field_addr X Tryz.underlying32 X Tryz.sizeOf29 X X<|zb X X (d := 59) X<|zm X X (fun _ hC => (zc (j := 3) hC.sub (hc11.up ((le16.trans le24).trans le33)) X X X Tryz.isAgg29))<|zb X X (d := 59) X<|u_mvI X X<|zb X X (d := 59) X<|u_index_el he46 X X (hk := X) (hu := Tryz.underlying29) (hz := Tryz.sizeOf84) X<|zb X X (d := 59) X<|u_field_addr X Tryz.underlying84 X Tryz.sizeOf82 X X<|zb X X (d := 59) X<|zm X X (fun _ hC => (zc (j := 3) hC.sub hc45 X X X Tryz.isAgg82))<|zb X X (d := 59) X<|zU X X (fun _ => zT X Tryz.call75 X) (fun _ hC => Rets.quiet hC (c_postilref04_SameHeads hC.sub f42 f48))<|zb X X (d := 59) X<|u_not X X<|u_pickF (v := (.bool _)) X X X<|zI ?_
       rintro w55 ⟨h56, s57⟩
       have st58 := st34.call0 s57
       refine U ?_
       refine zh rfl (fun c59 => ?_) (fun c59 => ?_)
       ·
        refine W.sr<|v_asB X X<|Y<|zo<|zn<|E<|E<|zn<|E<|za Tryz.results26 ?_
        refine ⟨h56, _, rfl, st58.done, ?_⟩
        refine zj ?_
        have q1 : c ≠ d := by
         rintro rfl
         simp_all
        have q : a ≠ b := fun e_ => ne_of_get hc hd q1 (by rw [e_])
        simp [q]
       ·
        refine zr<|zw<|U<|zg<|v_mvI X X<|v_add X X t_om X<|v_asI X X<|Y ?_
        refine ⟨⟨i + 1, h56⟩, ⟨rfl, trivial⟩, ?_, ⟨(le33.trans s57.le), st58, ?_, ?_⟩, ?_⟩
        ·exact zH
        ·first | omega | (simp; omega)
        ·exact eq_take_succ he hc hd (by rcases c with ⟨c1, c2⟩; rcases d with ⟨d1, d2⟩; simp_all)
        ·show a.questions.length - ((i + 1)) < a.questions.length - i
         omega
     ·
      replace c36 := of_decide_eq_false c36
      refine zL<|ze<|ze<|zF<|U<|zf<|W.sr<|v_asI X X<|Y<|zs ?_
      refine zG [4, 6, 75, 76, 77, 78, 79, 80, 81, 82, 83, 84, 85, 86, 87, 88, 89, 90, 91, 92, 93, 94, 95, 96, 97, 98, 99, 100, 101, 102, 103, 104, 105, 106, 107, 108, 109, 110, 111, 112, 113, 114, 115, 116, 117, 118, 119, 120, 121, 122, 123, 124, 125] (G := Nat × Heap) (fun ⟨k, h60⟩ => [(6, .int .i64 (k : Int))]) (fun ⟨k, h60⟩ w' => Le h32 h60 ∧ St h w h60 w' [] ∧ (k ≤ a.voters.length) ∧ (a.voters.take k = b.voters.take k)) (fun ⟨k, h60⟩ => a.voters.length - k) ⟨0, h32⟩ ⟨rfl, trivial⟩ ⟨Le.refl _, st34, zK, zK⟩ ?_
      rintro ⟨k, h60⟩ _ w63 ⟨le61, st62, hk, hf⟩
      refine zf<|W.sr<|v_mvI X X<|v_field_addr X Tryz.underlying32 X Tryz.sizeOf30 X X<|v_load_cells1 (j := 4) st62.sub (hc5.up ((((le10.trans le16).trans le24).trans le33).trans le61)) X X X Tryz.isAgg30 X<|v_len (a_f4.up (((((le4.trans le10).trans le16).trans le24).trans le33).trans le61)) X Tryz.underlying30 X<|v_lss X X X<|Y ?_
      refine zh rfl (fun c64 => ?_) (fun c64 => ?_)
      ·
       replace c64 := of_decide_eq_true c64
       refine zr<|U<|zf<|zs<|zf<|zS Tryz.mixed t_kr (Cls h60 _) (Cls.drew st62)<|u_field_addr X Tryz.underlying32 X Tryz.sizeOf30 X X<|zm X X (fun _ hC => (zc (j := 4) hC.sub (hc5.up ((((le10.trans le16).trans le24).trans le33).trans le61)) X X X Tryz.isAgg30))<|u_mvI X X ?_
       have hv : ∃ y_, (a.voters)[k]? = some y_ := ⟨_, List.getElem?_eq_getElem (by omega)⟩
       obtain ⟨v, hv⟩ := hv
       obtain ⟨b65, o66, _, he68, hc67, hr_v⟩ := Sl.elem (a_f4.up (((((le4.trans le10).trans le16).trans le24).trans le33).trans le61)) hv
       obtain ⟨v69, rfl, f70⟩ := hr_v
       have f70_b := f70.le
       refine u_index_el he68 X X (hk := X) (hu := Tryz.underlying30) (hz := Tryz.sizeOf79) X<|u_field_addr X Tryz.underlying79 X Tryz.sizeOf3 X X<|zm X X (fun _ hC => (zc (j := 0) hC.sub hc67 X X X Tryz.isAgg3))<|u_field_addr X Tryz.underlying32 X Tryz.sizeOf30 X X<|zm X X (fun _ hC => (zc (j := 4) hC.sub (hc11.up (((le16.trans le24).trans le33).trans le61)) X X X Tryz.isAgg30))<|u_mvI X X ?_
       have hu : ∃ y_, (b.voters)[k]? = some y_ := ⟨_, List.getElem?_eq_getElem (by omega)⟩
       obtain ⟨u, hu⟩ := hu
       obtain ⟨b71, o72, _, he74, hc73, hr_u⟩ := Sl.elem (b_f4.up (((((le4.trans le10).trans le16).trans le24).trans le33).trans le61)) hu
       obtain ⟨v75, rfl, f76⟩ := hr_u
       have f76_b := f76.le
       refine u_index_el he74 X X (hk := X) (hu := Tryz.underlying30) (hz := Tryz.sizeOf79) X<|u_field_addr X Tryz.underlying79 X Tryz.sizeOf3 X X<|zm X X (fun _ hC => (zc (j := 0) hC.sub hc73 X X X Tryz.isAgg3))<|u_neq X X X<|u_mvB X X ?_
       refine zW (d := 95) rfl (fun g77 => ?_) (fun g77 => ?_)
       ·
        replace g77 := of_decide_eq_true g77
        refine O X X (d := 95) X X X<|O X X (d := 95) X X X<|O X X (d := 95) X X X<|O X X (d := 95) X X X<|O X X (d := 95) X X X<|O X X (d := 95) X X X<|O X X (d := 95) X X X<|O X X (d := 95) X X X<|O X X (d := 95) X X X<|O X X (d := 95) X X X<|O X X (d := 95) X X X<|O X X (d := 95) X X X<|O X X (d := 95) X X X<|u_pickT (v := (.bool _)) X X X<|u_mvB X X<|O X X (d := 110) X X X<|O X X (d := 110) X X X<|O X X (d := 110) X X X<|O X X (d := 110) X X X<|O X X (d := 110) X X X<|O X X (d := 110) X X X<|O X X (d := 110) X X X<|O X X (d := 110) X X X<|O X X (d := 110) X X X<|O X X (d := 110) X X X<|O X X (d := 110) X X X<|O X X (d := 110) X X X<|O X X (d := 110) X X X<|O X X (d := 110) X X X<|u_pickT (v := (.bool _)) X X X ?_
        refine zI ?_
        rintro w78 ⟨h79, s80⟩
        have st81 := st62.call0 s80
        refine U ?_
        refine zh rfl (fun c82 => ?_) (fun c82 => ?_)
        ·
         refine W.sr<|v_asB X X<|Y<|zo<|zn<|E<|E<|zn<|E<|za Tryz.results26 ?_
         refine ⟨h79, _, rfl, st81.done, ?_⟩
         refine zj ?_
         have q1 : v ≠ u := by
          rintro rfl
          simp_all
         have q : a ≠ b := fun e_ => ne_of_get hv hu q1 (by rw [e_])
         simp [q]
        ·
         cases c82
       ·
        replace g77 := of_decide_eq_false g77
        refine zb X X (d := 95) X<|u_field_addr X Tryz.underlying32 X Tryz.sizeOf30 X X<|zb X X (d := 95) X<|zm X X (fun _ hC => (zc (j := 4) hC.sub (hc5.up ((((le10.trans le16).trans le24).trans le33).trans le61)) X X X Tryz.isAgg30))<|zb X X (d := 95) X<|u_mvI X X<|zb X X (d := 95) X<|u_index_el he68 X X (hk := X) (hu := Tryz.underlying30) (hz := Tryz.sizeOf79) X<|zb X X (d := 95) X<|u_field_addr X Tryz.underlying79 X Tryz.sizeOf3 X X<|zb X X (d := 95) X<|zm X X (fun _ hC => (zc (j := 1) hC.sub hc67 X X X Tryz.isAgg3))<|zb X X (d := 95) X<|u_field_addr X Tryz.underlying32 X Tryz.sizeOf30 X X<|zb X X (d := 95) X<|zm X X (fun _ hC => (zc (j := 4) hC.sub (hc11.up (((le16.trans le24).trans le33).trans le61)) X X X Tryz.isAgg30))<|zb X X (d := 95) X<|u_mvI X X<|zb X X (d := 95) X<|u_index_el he74 X X (hk := X) (hu := Tryz.underlying30) (hz := Tryz.sizeOf79) X<|zb X X (d := 95) X<|u_field_addr X Tryz.underlying79 X Tryz.sizeOf3 X X<|zb X X (d := 95) X<|zm X X (fun _ hC => (zc (j := 1) hC.sub hc73 X X X Tryz.isAgg3))<|zb X X (d := 95) X<|u_neq X X X<|u_pickF (v := (.bool _)) X X X<|u_mvB X X ?_
        refine zW (d := 110) rfl (fun g83 => ?_) (fun g83 => ?_)
        ·
         replace g83 := of_decide_eq_true g83
         refine O X X (d := 110) X X X<|O X X (d := 110) X X X<|O X X (d := 110) X X X<|O X X (d := 110) X X X<|O X X (d := 110) X X X<|O X X (d := 110) X X X<|O X X (d := 110) X X X<|O X X (d := 110) X X X<|O X X (d := 110) X X X<|O X X (d := 110) X X X<|O X X (d := 110) X X X<|O X X (d := 110) X X X<|O X X (d := 110) X X X<|O X X (d := 110) X X X<|u_pickT (v := (.bool _)) X X X<|zI ?_
         rintro w84 ⟨h85, s86⟩
         have st87 := st62.call0 s86
         refine U ?_
         refine zh rfl (fun c88 => ?_) (fun c88 => ?_)
         ·
          refine W.sr<|v_asB X X<|Y<|zo<|zn<|E<|E<|zn<|E<|za Tryz.results26 ?_
          refine ⟨h85, _, rfl, st87.done, ?_⟩
          refine zj ?_
          have q1 : v ≠ u := by
           rintro rfl
           simp_all
          have q : a ≠ b := fun e_ => ne_of_get hv hu q1 (by rw [e_])
          simp [q]
         ·
          cases c88
        ·
         replace g83 := of_decide_eq_false g83
         refine zb X X (d := 110) X<|u_field_addr X Tryz.underlying32 X Tryz.sizeOf30 X X<|zb X X (d := 110) X<|zm X X (fun _ hC => (zc (j := 4) hC.sub (hc5.up ((((le10.trans le16).trans le24).trans le33).trans le61)) X X X Tryz.isAgg30))<|zb X X (d := 110) X<|u_mvI X X<|zb X X (d := 110) X<|u_index_el he68 X X (hk := X) (hu := Tryz.underlying30) (hz := Tryz.sizeOf79) X<|zb X X (d := 110) X<|u_field_addr X Tryz.underlying79 X Tryz.sizeOf42 X X<|zb X X (d := 110) X<|zm X X (fun _ hC => (zc (j := 2) hC.sub hc67 X X X Tryz.isAgg42))<|zb X X (d := 110) X<|u_field_addr X Tryz.underlying32 X Tryz.sizeOf30 X X<|zb X X (d := 110) X<|zm X X (fun _ hC => (zc (j := 4) hC.sub (hc11.up (((le16.trans le24).trans le33).trans le61)) X X X Tryz.isAgg30))<|zb X X (d := 110) X<|u_mvI X X<|zb X X (d := 110) X<|u_index_el he74 X X (hk := X) (hu := Tryz.underlying30) (hz := Tryz.sizeOf79) X<|zb X X (d := 110) X<|u_field_addr X Tryz.underlying79 X Tryz.sizeOf42 X X<|zb X X (d := 110) X<|zm X X (fun _ hC => (zc (j := 2) hC.sub hc73 X X X Tryz.isAgg42))<|zb X X (d := 110) X<|zU X X (fun _ => zT X Tryz.call21 X) (fun _ hC => Rets.quiet hC (c_postilref07_SameInts hC.sub f70 f76))<|zb X X (d := 110) X<|u_not X X<|u_pickF (v := (.bool _)) X X X<|zI ?_
         rintro w89 ⟨h90, s91⟩
         have st92 := st62.call0 s91
         refine U ?_
         refine zh rfl (fun c93 => ?_) (fun c93 => ?_)
         ·
          refine W.sr<|v_asB X X<|Y<|zo<|zn<|E<|E<|zn<|E<|za Tryz.results26 ?_
          refine ⟨h90, _, rfl, st92.done, ?_⟩
          refine zj ?_
          have q1 : v ≠ u := by
           rintro rfl
           simp_all
          have q : a ≠ b := fun e_ => ne_of_get hv hu q1 (by rw [e_])
          simp [q]
         ·
          refine zr<|zw<|U<|zg<|v_mvI X X<|v_add X X t_om X<|v_asI X X<|Y ?_
          refine ⟨⟨k + 1, h90⟩, ⟨rfl, trivial⟩, ?_, ⟨(le61.trans s91.le), st92, ?_, ?_⟩, ?_⟩
          ·exact zH
          ·first | omega | (simp; omega)
          ·exact eq_take_succ hf hv hu (by rcases v with ⟨v1, v2, v3⟩; rcases u with ⟨u1, u2, u3⟩; simp_all)
          ·show a.voters.length - ((k + 1)) < a.voters.length - k
           omega
      ·
       replace c64 := of_decide_eq_false c64
       refine zL<|ze<|ze<|zF<|U<|W.sr<|v_asB X X<|Y<|zo<|za Tryz.results26 ?_
       refine ⟨h60, _, rfl, st62.done, ?_⟩
       refine zj ?_
       have q1 := eq_of_take he (by omega) (by omega)
       have q2 := eq_of_take hf (by omega) (by omega)
       rcases a with ⟨a1, a2, a3, a4⟩; rcases b with ⟨b1, b2, b3, b4⟩
       simp_all
end Go.Pk

namespace Go.Pk
open Go Go.RowKit Go.Proofs
set_option maxRecDepth 4000 in
theorem c_slices_Max_Lint_int {h : Heap} {w : World} (hs : Sub h w) {s_v : Value} {s : (List Int)} (s_f : Sl LInt h s_v s) (hn : 0 < s.length) : Calls Tryz.prog 108 #[s_v] w (Rets h w (fun _ _ res_ => res_ = .int .i64 ((maxL s)))) := by
 refine zz (n := 25) (args := [s_v]) Tryz.func108 X X X ?_
 have st0 : St h w h w [] := St.start hs
 have s_f_b := s_f.le
 refine W.sr<|v_asI X X<|Y<|zf<|W.sr<|v_move (v := s_v) X X<|v_len s_f X Tryz.underlying42 X<|v_lss X X X<|Y ?_
 refine zh rfl (fun c1 => ?_) (fun c1 => ?_)
 ·
  replace c1 := of_decide_eq_true c1
  exfalso
  have sure_ : (decide ((s.length : Int) < 1)) = false := by exact decide_eq_false (by omega)
  exact of_decide_eq_false sure_ c1
 ·
  replace c1 := of_decide_eq_false c1
  refine zr<|U<|W.sr<|v_move (v := s_v) X X ?_
  have ha : ∃ y_, (s)[0]? = some y_ := ⟨_, List.getElem?_eq_getElem (by omega)⟩
  obtain ⟨a, ha⟩ := ha
  obtain ⟨b2, o3, _, he5, hc4, hr_a⟩ := Sl.elem s_f ha
  obtain rfl := hr_a
  refine v_index_el he5 X X (hk := X) (hu := Tryz.underlying42) (hz := Tryz.sizeOf3) X<|v_load_cells1 (j := 0) st0.sub hc4 X X X Tryz.isAgg3 X<|v_asI X X<|Y<|zf<|W.sr<|v_asI X X<|Y<|zs ?_
  refine zG [3, 4, 12, 13, 14, 15, 16, 17, 18, 19, 20, 21, 22, 23] (G := Nat × Heap) (fun ⟨k, h6⟩ => [(3, .int .i64 (maxL (s.take k))), (4, .int .i64 (k : Int))]) (fun ⟨k, h6⟩ w' => Le h h6 ∧ St h w h6 w' [] ∧ (1 ≤ k ∧ k ≤ s.length)) (fun ⟨k, h6⟩ => s.length - k) ⟨1, h⟩ ⟨(zB (by rw [maxL_one ha])), rfl, trivial⟩ ⟨Le.refl _, st0, (by exact ⟨Nat.le_refl _, by omega⟩)⟩ ?_
  rintro ⟨k, h6⟩ _ w9 ⟨le7, st8, hk⟩
  refine zf<|W.sr<|v_mvI X X<|v_move (v := s_v) X X<|v_len (s_f.up le7) X Tryz.underlying42 X<|v_lss X X X<|Y ?_
  refine zh rfl (fun c10 => ?_) (fun c10 => ?_)
  ·
   replace c10 := of_decide_eq_true c10
   refine zr<|U<|zf<|zs<|zg<|v_mvI X X<|v_move (v := s_v) X X<|v_mvI X X ?_
   have hx : ∃ y_, (s)[k]? = some y_ := ⟨_, List.getElem?_eq_getElem (by omega)⟩
   obtain ⟨x, hx⟩ := hx
   obtain ⟨b11, o12, _, he14, hc13, hr_x⟩ := Sl.elem (s_f.up le7) hx
   obtain rfl := hr_x
   refine v_index_el he14 X X (hk := X) (hu := Tryz.underlying42) (hz := Tryz.sizeOf3) X<|v_load_cells1 (j := 0) st8.sub hc13 X X X Tryz.isAgg3 X<|zk X X (r_max X X)<|v_asI X X<|zt<|zw<|U<|zg<|v_mvI X X<|v_add X X t_om X<|v_asI X X<|Y ?_
   refine ⟨⟨k + 1, h6⟩, ⟨?_, rfl, trivial⟩, ?_, ⟨le7, st8, ?_⟩, ?_⟩
   ·exact zB (by rw [maxL_take hx (by omega)])
   ·exact zH
   ·exact ⟨by omega, by omega⟩
   ·show s.length - ((k + 1)) < s.length - k
    omega
  ·
   replace c10 := of_decide_eq_false c10
   refine zL<|ze<|ze<|zF<|U<|W.sr<|v_mvI X X<|v_asI X X<|Y<|zo<|za Tryz.results108 ?_
   refine ⟨h6, _, rfl, st8.done, ?_⟩
   refine zB ?_
   rw [List.take_of_length_le (by omega)]
set_option maxRecDepth 4000 in
theorem c_vote_worst {h : Heap} {w : World} (hs : Sub h w) {l_v : Value} {l : (List (List Int))} (l_f : Sl (LSl LInt) h l_v l) (q : Int) (hq : 0 ≤ q) (hl : ∀ t ∈ l, ∃ a, t[q.toNat]? = some a ∧ 0 ≤ a ∧ a < 3) (hn : l.length ≤ 1000) : Calls Tryz.prog 70 #[l_v, .int .i64 q] w (Rets h w (fun _ _ res_ => res_ = .int .i64 ((worstN l q.toNat)))) := by
 refine zz (n := 25) (args := [l_v, .int .i64 q]) Tryz.func70 X X X ?_
 have st0 : St h w h w [] := St.start hs
 have l_f_b := l_f.le
 refine W.sr<|v_asI X X<|Y<|W.sr<|zD st0 Tryz.zeroValue172 X X ?_
 intro b1 w2 st3
 refine Y<|zf<|W.sr<|v_move (v := l_v) X X<|v_len l_f X Tryz.underlying91 X<|v_mvI X X<|Y<|zs ?_
 refine zG [7, 10, 11, 12, 13, 14, 15, 16, 17, 18, 19, 20, 21, 22] (G := Nat × Int × Int × Int × Heap) (fun ⟨i, c0, c1, c2, h4⟩ => [(10, .int .i64 (i : Int))]) (fun ⟨i, c0, c1, c2, h4⟩ w' => Le h h4 ∧ St h w h4 w' [[(b1, .cells (List.toArray [.int .i64 c0, .int .i64 c1, .int .i64 c2]) 172)]] ∧ (i ≤ l.length) ∧ (c0 = (cntH (l.take i) q.toNat 0 : Nat) ∧ c1 = (cntH (l.take i) q.toNat 1 : Nat) ∧ c2 = (cntH (l.take i) q.toNat 2 : Nat))) (fun ⟨i, c0, c1, c2, h4⟩ => l.length - i) ⟨0, 0, 0, 0, h⟩ ⟨rfl, trivial⟩ ⟨Le.refl _, st3, zK, (by exact ⟨rfl, rfl, rfl⟩)⟩ ?_
 rintro ⟨i, c0, c1, c2, h4⟩ _ w7 ⟨le5, st6, hi, hc⟩
 refine W.sr<|v_lss X X X<|Y<|zf ?_
 refine zh rfl (fun c8 => ?_) (fun c8 => ?_)
 ·
  replace c8 := of_decide_eq_true c8
  refine zr<|U<|zf<|zs<|W.sr ?_
  have ht : ∃ y_, (l)[i]? = some y_ := ⟨_, List.getElem?_eq_getElem (by omega)⟩
  obtain ⟨t, ht⟩ := ht
  obtain ⟨b9, o10, _, he12, hc11, hr_t⟩ := Sl.elem (l_f.up le5) ht
  obtain ⟨v13, rfl, f14⟩ := hr_t
  have f14_b := f14.le
  refine v_index_el he12 X X (hk := X) (hu := Tryz.underlying91) (hz := Tryz.sizeOf42) X<|v_load_cells1 (j := 0) st6.sub hc11 X X X Tryz.isAgg42 X<|v_assign (v := v13) X X<|Y ?_
  obtain ⟨a, ha⟩ : ∃ y, (t)[q.toNat]? = some y := ⟨_, List.getElem?_eq_getElem (by obtain ⟨a_, ha_, _⟩ := hl t (List.mem_of_getElem? ht); exact (List.getElem?_eq_some_iff.1 ha_).1)⟩
  rcases (show a = 0 ∨ a = 1 ∨ a = 2 by obtain ⟨a_, ha_, h0_, h3_⟩ := hl t (List.mem_of_getElem? ht); rw [ha] at ha_; cases ha_; omega) with hk15 | hk15 | hk15
  ·
   refine zg<|v_move (v := v13) X X<|v_mvI X X ?_
   obtain ⟨b16, o17, _, he19, hc18, hr_a⟩ := Sl.elem f14 ha
   obtain rfl := hr_a
   refine zk rfl rfl (zE he19 rfl rfl (hk := (show _ = ((q.toNat : Nat) : Int) by omega)) (hu := Tryz.underlying42) (hz := Tryz.sizeOf3)) ?_
   refine v_load_cells1 (j := 0) st6.sub hc18 X X X Tryz.isAgg3 X ?_
   refine zk rfl rfl (zae rfl rfl (show _ = ((0 : Nat) : Int) by rw [hk15]; rfl) rfl Tryz.underlying172 Tryz.sizeOf3) ?_
   refine v_load_b1 (st6.get (k := 0) X) X X Tryz.isAgg3 X ?_
   refine zk rfl rfl (r_add rfl rfl (by obtain ⟨q0, q1, q2⟩ := hc; have b0 := cntH_le (l.take i) q.toNat 0; have b1 := cntH_le (l.take i) q.toNat 1; have b2 := cntH_le (l.take i) q.toNat 2; rw [List.length_take] at b0 b1 b2; omega)) ?_
   refine zk rfl rfl (zae rfl rfl (show _ = ((0 : Nat) : Int) by rw [hk15]; rfl) rfl Tryz.underlying172 Tryz.sizeOf3) ?_
   refine zO st6 (k := 0) X X X X Tryz.sizeOf3 X X X ?_
   intro w20 st21
   refine zt<|zw<|U<|zg<|v_add X X t_om X<|v_mvI X X<|Y ?_
   refine ⟨⟨i + 1, (c0 + 1), c1, c2, h4⟩, ⟨rfl, trivial⟩, ?_, ⟨le5, st21, ?_, ?_⟩, ?_⟩
   ·exact zH
   ·first | omega | (simp; omega)
   ·obtain ⟨q0, q1, q2⟩ := hc
    refine ⟨?_, ?_, ?_⟩ <;> (rw [cnt_up ht ha, hk15]; simp; omega)
   ·show l.length - ((i + 1)) < l.length - i
    omega
  ·
   refine zg<|v_move (v := v13) X X<|v_mvI X X ?_
   obtain ⟨b22, o23, _, he25, hc24, hr_a⟩ := Sl.elem f14 ha
   obtain rfl := hr_a
   refine zk rfl rfl (zE he25 rfl rfl (hk := (show _ = ((q.toNat : Nat) : Int) by omega)) (hu := Tryz.underlying42) (hz := Tryz.sizeOf3)) ?_
   refine v_load_cells1 (j := 0) st6.sub hc24 X X X Tryz.isAgg3 X ?_
   refine zk rfl rfl (zae rfl rfl (show _ = ((1 : Nat) : Int) by rw [hk15]; rfl) rfl Tryz.underlying172 Tryz.sizeOf3) ?_
   refine v_load_b1 (st6.get (k := 0) X) X X Tryz.isAgg3 X ?_
   refine zk rfl rfl (r_add rfl rfl (by obtain ⟨q0, q1, q2⟩ := hc; have b0 := cntH_le (l.take i) q.toNat 0; have b1 := cntH_le (l.take i) q.toNat 1; have b2 := cntH_le (l.take i) q.toNat 2; rw [List.length_take] at b0 b1 b2; omega)) ?_
   refine zk rfl rfl (zae rfl rfl (show _ = ((1 : Nat) : Int) by rw [hk15]; rfl) rfl Tryz.underlying172 Tryz.sizeOf3) ?_
   refine zO st6 (k := 0) X X X X Tryz.sizeOf3 X X X ?_
   intro w26 st27
   refine zt<|zw<|U<|zg<|v_add X X t_om X<|v_mvI X X<|Y ?_
   refine ⟨⟨i + 1, c0, (c1 + 1), c2, h4⟩, ⟨rfl, trivial⟩, ?_, ⟨le5, st27, ?_, ?_⟩, ?_⟩
   ·exact zH
   ·first | omega | (simp; omega)
   ·obtain ⟨q0, q1, q2⟩ := hc
    refine ⟨?_, ?_, ?_⟩ <;> (rw [cnt_up ht ha, hk15]; simp; omega)
   ·show l.length - ((i + 1)) < l.length - i
    omega
  ·
   refine zg<|v_move (v := v13) X X<|v_mvI X X ?_
   obtain ⟨b28, o29, _, he31, hc30, hr_a⟩ := Sl.elem f14 ha
   obtain rfl := hr_a
   refine zk rfl rfl (zE he31 rfl rfl (hk := (show _ = ((q.toNat : Nat) : Int) by omega)) (hu := Tryz.underlying42) (hz := Tryz.sizeOf3)) ?_
   refine v_load_cells1 (j := 0) st6.sub hc30 X X X Tryz.isAgg3 X ?_
   refine zk rfl rfl (zae rfl rfl (show _ = ((2 : Nat) : Int) by rw [hk15]; rfl) rfl Tryz.underlying172 Tryz.sizeOf3) ?_
   refine v_load_b1 (st6.get (k := 0) X) X X Tryz.isAgg3 X ?_
   refine zk rfl rfl (r_add rfl rfl (by obtain ⟨q0, q1, q2⟩ := hc; have b0 := cntH_le (l.take i) q.toNat 0; have b1 := cntH_le (l.take i) q.toNat 1; have b2 := cntH_le (l.take i) q.toNat 2; rw [List.length_take] at b0 b1 b2; omega)) ?_
   refine zk rfl rfl (zae rfl rfl (show _ = ((2 : Nat) : Int) by rw [hk15]; rfl) rfl Tryz.underlying172 Tryz.sizeOf3) ?_
   refine zO st6 (k := 0) X X X X Tryz.sizeOf3 X X X ?_
   intro w32 st33
   refine zt<|zw<|U<|zg<|v_add X X t_om X<|v_mvI X X<|Y ?_
   refine ⟨⟨i + 1, c0, c1, (c2 + 1), h4⟩, ⟨rfl, trivial⟩, ?_, ⟨le5, st33, ?_, ?_⟩, ?_⟩
   ·exact zH
   ·first | omega | (simp; omega)
   ·obtain ⟨q0, q1, q2⟩ := hc
    refine ⟨?_, ?_, ?_⟩ <;> (rw [cnt_up ht ha, hk15]; simp; omega)
   ·show l.length - ((i + 1)) < l.length - i
    omega
 ·
  replace c8 := of_decide_eq_false c8
  refine zL<|ze<|ze<|zF<|U<|zf ?_
  obtain ⟨h34, le35, hb36, st38⟩ := st6.freeze (k := 0) rfl
  have hc37 := Cells.of hb36
  refine zg ?_
  have fa40 := Sl.ofCells (L := LInt) (xs := [c0, c1, c2]) hc37 (Enc.cons (L := LInt) (vs := [.int .i64 c0]) (x := c0) (h := h34) (rfl) (Enc.cons (L := LInt) (vs := [.int .i64 c1]) (x := c1) (h := h34) (rfl) (Enc.cons (L := LInt) (vs := [.int .i64 c2]) (x := c2) (h := h34) (rfl) Enc.nil))) (by simp [big])
  refine zk X X (r_slice_arr X Tryz.underlying172 Tryz.sizeOf3) ?_
  refine zi st38 rfl rfl rfl Tryz.call108 rfl (c_slices_Max_Lint_int st38.sub fa40 (by simp)) ?_
  intro r41 w42 h43 le44 st45 q46
  obtain rfl := q46
  refine v_asI X X<|Y<|zo<|za Tryz.results70 ?_
  refine ⟨h43, _, rfl, st45.done, ?_⟩
  refine zB ?_
  obtain ⟨q0, q1, q2⟩ := hc
  rw [List.take_of_length_le (by omega)] at q0 q1 q2
  exact worst3 l q.toNat q0 q1 q2
set_option maxRecDepth 4000 in
theorem c_vote_members {h : Heap} {w : World} (hs : Sub h w) (s : Int) (hs0 : 0 ≤ s ∧ s ≤ 1000000) : Calls Tryz.prog 62 #[.int .i64 s] w (Rets h w (fun h' _ res_ => ∃ u0, res_ = u0 ∧ Sl LInt h' u0 ((membersL s 6)))) := by
 refine zz (n := 19) (args := [.int .i64 s]) Tryz.func62 X X X ?_
 have st0 : St h w h w [] := St.start hs
 refine W.sr<|v_asL X X<|Y<|W.sr<|v_asL X X<|Y<|zf<|W.sr<|v_mvI X X<|Y<|zs ?_
 have st4 := st0.snoc
 have f5 := OSl.nil LInt 3 h
 refine zG [3, 4, 5, 6, 7, 8, 9, 10, 11, 12, 13, 14, 15, 16, 17] (G := Nat × Value × List (Nat × Obj) × Heap) (fun ⟨i, v_3, o_3, h1⟩ => [(3, v_3), (5, .int .i64 (i : Int))]) (fun ⟨i, v_3, o_3, h1⟩ w' => Le h h1 ∧ St h w h1 w' [o_3] ∧ (OSl LInt 3 h1 v_3 ((membersL s i)) o_3) ∧ (i ≤ 6)) (fun ⟨i, v_3, o_3, h1⟩ => 6 - i) ⟨0, (.slice none 0 0), [], h⟩ ⟨rfl, rfl, trivial⟩ ⟨Le.refl _, st4, (OSl.to f5 (by rfl)), zK⟩ ?_
 rintro ⟨i, v_3, o_3, h1⟩ _ w6 ⟨le2, st3, hO_3, hi⟩
 refine W.sr<|v_lss X X X<|Y<|zf ?_
 refine zh rfl (fun c7 => ?_) (fun c7 => ?_)
 ·
  replace c7 := of_decide_eq_true c7
  refine zr<|U<|zf<|zs<|W.sr<|v_mvI X X<|v_asI X X<|Y<|W.sr<|v_mvI X X<|v_mvI X X ?_
  refine zk rfl rfl (r_shr rfl rfl (by omega) (by omega)) ?_
  refine zk rfl rfl (r_and1 rfl rfl (by have q_ := bits_ok (b := (i : Int)) hs0.1 hs0.2; omega) (by have q_ := bits_ok (b := (i : Int)) hs0.1 hs0.2; omega)) ?_
  refine v_eql X X X<|Y ?_
  refine zh rfl (fun c8 => ?_) (fun c8 => ?_)
  ·
   replace c8 := of_decide_eq_true c8
   refine zg<|v_move (v := v_3) X X<|v_mvI X X<|zN (L := LInt) (xs := [(i : Int)]) (cs := [.int .i64 (i : Int)]) st3 (Enc.cons (L := LInt) (vs := [.int .i64 (i : Int)]) (x := (i : Int)) (h := h1) (X) Enc.nil) X X X Tryz.underlying42 Tryz.info3 X X X t_kr ?_
   intro v9 w10 h13 le14 f11 st12
   refine zaf (k := 0) (nb := 8) st12 (hO_3.up le14) rfl f11 rfl rfl rfl Tryz.underlying42 Tryz.info3 rfl rfl rfl (by decide) rfl (by have q_ := members_len s i; first | omega | (simp only [List.length_append, List.length_cons, List.length_nil]; omega)) (by have q_ := members_len s i; first | omega | (simp only [List.length_append, List.length_cons, List.length_nil]; omega)) ?_
   intro v15 o16 w17 _ e18 f19 st20
   subst e18
   refine v_assign (v := v15) X X<|zt<|zw<|U<|zg<|v_add X X t_om X<|v_mvI X X<|Y ?_
   refine ⟨⟨i + 1, v15, o16, h13⟩, ⟨rfl, rfl, trivial⟩, ?_, ⟨(le2.trans le14), st20, ?_, ?_⟩, ?_⟩
   ·exact zH
   ·refine OSl.to f19 ?_
    rw [members_succ, if_pos (by simpa [bitN] using c8)]
   ·first | omega | (simp; omega)
   ·show 6 - ((i + 1)) < 6 - i
    omega
  ·
   replace c8 := of_decide_eq_false c8
   refine zr<|zw<|U<|zg<|v_add X X t_om X<|v_mvI X X<|Y ?_
   refine ⟨⟨i + 1, v_3, o_3, h1⟩, ⟨rfl, rfl, trivial⟩, ?_, ⟨le2, st3, ?_, ?_⟩, ?_⟩
   ·exact zH
   ·refine OSl.to hO_3 ?_
    rw [members_succ, if_neg (by simpa [bitN] using c8), List.append_nil]
   ·first | omega | (simp; omega)
   ·show 6 - ((i + 1)) < 6 - i
    omega
 ·
  replace c7 := of_decide_eq_false c7
  refine zL<|ze<|ze<|zF<|U<|W.sr<|v_move (v := v_3) X X<|v_assign (v := v_3) X X<|Y<|zo<|za Tryz.results62 ?_
  obtain ⟨h21, le22, f23, st24⟩ := OSl.freeze (k := 0) st3 hO_3 rfl (by have q_ := members_len s i; first | omega | (simp only [List.length_append, List.length_cons, List.length_nil]; omega))
  refine ⟨h21, _, rfl, st24.done, ?_⟩
  refine ⟨_, rfl, Sl.to f23 ?_⟩
  rw [show i = 6 by omega]
set_option maxRecDepth 4000 in
set_option maxHeartbeats 4000000 in
theorem c_vote_tells {h : Heap} {w : World} (hs : Sub h w) {ts_v : Value} {ts : (List (List Int))} (ts_f : Sl (LSl LInt) h ts_v ts) (s : Int) (hs0 : 0 ≤ s ∧ s ≤ 1000000) (hl : ∀ t ∈ ts, t.length ≤ 6) (he : ∀ t ∈ ts, ∀ u ∈ ts, t.length = u.length) (hb6 : ∀ t ∈ ts, ∀ a ∈ t, 0 ≤ a ∧ a ≤ 1000) : Calls Tryz.prog 61 #[ts_v, .int .i64 s] w (Rets h w (fun _ _ res_ => res_ = .bool ((tellsL ts (membersL s 6))))) := by
 refine zz (n := 40) (args := [ts_v, .int .i64 s]) Tryz.func61 X X X ?_
 have st0 : St h w h w [] := St.start hs
 have ts_f_b := ts_f.le
 refine W.sr<|v_asB X X<|Y<|W.sr<|OpsL.makeMap (κ := Six) (υ := Bool) (ek := sixV) (eu := (fun b : Bool => .bool b)) st0 X ?_
 intro v1 o2 w3 f4 st5
 obtain ⟨mb6, rfl⟩ := f4.form
 have nd7 : (([] : List (Six × Bool)).map (·.1)).Nodup := by simp
 refine v_assign (v := (.map (some mb6))) X X<|Y<|zf<|W.sr<|v_move (v := ts_v) X X<|v_len ts_f X Tryz.underlying91 X<|v_mvI X X<|Y<|zs ?_
 refine zG [4, 7, 8, 9, 10, 14, 15, 16, 17, 18, 19, 20, 21, 22, 23, 24, 25, 26, 27, 28, 29, 30, 31, 32, 33, 34, 35, 36, 37, 38, 39] (G := Nat × List (Six × Bool) × List (Nat × Obj) × Heap) (fun ⟨i, m, o_5, h8⟩ => [(14, .int .i64 (i : Int))]) (fun ⟨i, m, o_5, h8⟩ w' => Le h h8 ∧ St h w h8 w' [o_5] ∧ (OM sixV (fun b : Bool => .bool b) (m) o_5 (.map (some mb6))) ∧ (((m).map (·.1)).Nodup) ∧ (i ≤ ts.length) ∧ (∀ j, j < i → tellsAt ts (membersL s 6) j = true) ∧ (∀ x, look m x = sixM ts s i x)) (fun ⟨i, m, o_5, h8⟩ => ts.length - i) ⟨0, [], o2, h⟩ ⟨rfl, trivial⟩ ⟨Le.refl _, st5, (by have q := f4; exact q), (by have q := nd7; exact q), zK, zK, (by intro x; simp [sixM, look])⟩ ?_
 rintro ⟨i, m, o_5, h8⟩ _ w11 ⟨le9, st10, hM_5, hN_5, hi, hT, hm⟩
 refine W.sr<|v_lss X X X<|Y<|zf ?_
 refine zh rfl (fun c12 => ?_) (fun c12 => ?_)
 ·
  replace c12 := of_decide_eq_true c12
  refine zr<|U<|zf<|zs<|W.sr ?_
  have ht : ∃ y_, (ts)[i]? = some y_ := ⟨_, List.getElem?_eq_getElem (by omega)⟩
  obtain ⟨t, ht⟩ := ht
  obtain ⟨b13, o14, _, he16, hc15, hr_t⟩ := Sl.elem (ts_f.up le9) ht
  obtain ⟨v17, rfl, f18⟩ := hr_t
  have f18_b := f18.le
  refine v_index_el he16 X X (hk := X) (hu := Tryz.underlying91) (hz := Tryz.sizeOf42) X<|v_load_cells1 (j := 0) st10.sub hc15 X X X Tryz.isAgg42 X<|v_assign (v := v17) X X<|Y<|W.sr<|zD st10 Tryz.zeroValue169 X X ?_
  intro b19 w20 st21
  refine Y<|zf<|W.sr<|v_move (v := v17) X X<|v_len f18 X Tryz.underlying42 X<|v_mvI X X<|Y<|zs ?_
  refine zG [9, 10, 20, 21, 22, 23, 24, 25, 26, 27, 28, 29, 30, 31, 32, 33] (G := Nat × Int × Int × Int × Int × Int × Int × Heap) (fun ⟨k, c0, c1, c2, c3, c4, c5, h22⟩ => [(20, .int .i64 (k : Int))]) (fun ⟨k, c0, c1, c2, c3, c4, c5, h22⟩ w' => Le h8 h22 ∧ St h w h22 w' [o_5, [(b19, .cells (List.toArray [.int .i64 c0, .int .i64 c1, .int .i64 c2, .int .i64 c3, .int .i64 c4, .int .i64 c5]) 169)]] ∧ (k ≤ t.length) ∧ (Six.mk c0 c1 c2 c3 c4 c5 = sixK t s k)) (fun ⟨k, c0, c1, c2, c3, c4, c5, h22⟩ => t.length - k) ⟨0, 0, 0, 0, 0, 0, 0, h8⟩ ⟨rfl, trivial⟩ ⟨Le.refl _, st21, zK, (by rfl)⟩ ?_
  rintro ⟨k, c0, c1, c2, c3, c4, c5, h22⟩ _ w25 ⟨le23, st24, hk, hc⟩
  refine W.sr<|v_lss X X X<|Y<|zf ?_
  refine zh rfl (fun c26 => ?_) (fun c26 => ?_)
  ·
   replace c26 := of_decide_eq_true c26
   refine zr<|U<|zf<|zs<|W.sr<|v_mvI X X ?_
   have hx : ∃ y_, (t)[k]? = some y_ := ⟨_, List.getElem?_eq_getElem (by omega)⟩
   obtain ⟨x, hx⟩ := hx
   obtain ⟨b27, o28, _, he30, hc29, hr_x⟩ := Sl.elem (f18.up le23) hx
   obtain rfl := hr_x
   refine v_index_el he30 X X (hk := X) (hu := Tryz.underlying42) (hz := Tryz.sizeOf3) X<|v_load_cells1 (j := 0) st24.sub hc29 X X X Tryz.isAgg3 X<|v_asI X X<|v_asI X X<|Y ?_
   rcases (show (k : Int) = 0 ∨ (k : Int) = 1 ∨ (k : Int) = 2 ∨ (k : Int) = 3 ∨ (k : Int) = 4 ∨ (k : Int) = 5 by have q_ := hl t (List.mem_of_getElem? ht); omega) with hk31 | hk31 | hk31 | hk31 | hk31 | hk31
   ·
    refine zg<|v_mvI X X<|v_mvI X X<|v_mvI X X<|v_mvI X X ?_
    refine zk rfl rfl (r_shr rfl rfl (by omega) (by omega)) ?_
    refine zk rfl rfl (r_and1 rfl rfl (by have q_ := bits_ok (b := (k : Int)) hs0.1 hs0.2; omega) (by have q_ := bits_ok (b := (k : Int)) hs0.1 hs0.2; omega)) ?_
    refine zk rfl rfl (r_mul rfl rfl (by have q_ := hb6 t (List.mem_of_getElem? ht) x (List.mem_of_getElem? hx); rcases bit_01 (s := s) (j := (k : Int)) with q2_ | q2_ <;> (rw [bitN] at q2_; rw [q2_]; omega))) ?_
    refine zk rfl rfl (zae rfl rfl (show _ = ((0 : Nat) : Int) by rw [hk31]; rfl) rfl Tryz.underlying169 Tryz.sizeOf3) ?_
    refine zO st24 (k := 1) X X X X Tryz.sizeOf3 X X X ?_
    intro w32 st33
    refine zt<|zw<|U<|zg<|v_add X X t_om X<|v_mvI X X<|Y ?_
    refine ⟨⟨k + 1, (x * ((s / 2 ^ (k : Int).toNat) % 2)), c1, c2, c3, c4, c5, h22⟩, ⟨rfl, trivial⟩, ?_, ⟨le23, st33, ?_, ?_⟩, ?_⟩
    ·exact zH
    ·first | omega | (simp; omega)
    ·simp only [sixK, Six.mk.injEq] at hc ⊢
     obtain ⟨q0, q1, q2, q3, q4, q5⟩ := hc
     refine ⟨?_, ?_, ?_, ?_, ?_, ?_⟩ <;> first | (rw [sixAt_old (by omega)]; assumption) | (exact (sixAt_new' (by omega) hx).symm)
    ·show t.length - ((k + 1)) < t.length - k
     omega
   ·
    refine zg<|v_mvI X X<|v_mvI X X<|v_mvI X X<|v_mvI X X ?_
    refine zk rfl rfl (r_shr rfl rfl (by omega) (by omega)) ?_
    refine zk rfl rfl (r_and1 rfl rfl (by have q_ := bits_ok (b := (k : Int)) hs0.1 hs0.2; omega) (by have q_ := bits_ok (b := (k : Int)) hs0.1 hs0.2; omega)) ?_
    refine zk rfl rfl (r_mul rfl rfl (by have q_ := hb6 t (List.mem_of_getElem? ht) x (List.mem_of_getElem? hx); rcases bit_01 (s := s) (j := (k : Int)) with q2_ | q2_ <;> (rw [bitN] at q2_; rw [q2_]; omega))) ?_
    refine zk rfl rfl (zae rfl rfl (show _ = ((1 : Nat) : Int) by rw [hk31]; rfl) rfl Tryz.underlying169 Tryz.sizeOf3) ?_
    refine zO st24 (k := 1) X X X X Tryz.sizeOf3 X X X ?_
    intro w34 st35
    refine zt<|zw<|U<|zg<|v_add X X t_om X<|v_mvI X X<|Y ?_
    refine ⟨⟨k + 1, c0, (x * ((s / 2 ^ (k : Int).toNat) % 2)), c2, c3, c4, c5, h22⟩, ⟨rfl, trivial⟩, ?_, ⟨le23, st35, ?_, ?_⟩, ?_⟩
    ·exact zH
    ·first | omega | (simp; omega)
    ·simp only [sixK, Six.mk.injEq] at hc ⊢
     obtain ⟨q0, q1, q2, q3, q4, q5⟩ := hc
     refine ⟨?_, ?_, ?_, ?_, ?_, ?_⟩ <;> first | (rw [sixAt_old (by omega)]; assumption) | (exact (sixAt_new' (by omega) hx).symm)
    ·show t.length - ((k + 1)) < t.length - k
     omega
   ·
    refine zg<|v_mvI X X<|v_mvI X X<|v_mvI X X<|v_mvI X X ?_
    refine zk rfl rfl (r_shr rfl rfl (by omega) (by omega)) ?_
    refine zk rfl rfl (r_and1 rfl rfl (by have q_ := bits_ok (b := (k : Int)) hs0.1 hs0.2; omega) (by have q_ := bits_ok (b := (k : Int)) hs0.1 hs0.2; omega)) ?_
    refine zk rfl rfl (r_mul rfl rfl (by have q_ := hb6 t (List.mem_of_getElem? ht) x (List.mem_of_getElem? hx); rcases bit_01 (s := s) (j := (k : Int)) with q2_ | q2_ <;> (rw [bitN] at q2_; rw [q2_]; omega))) ?_
    refine zk rfl rfl (zae rfl rfl (show _ = ((2 : Nat) : Int) by rw [hk31]; rfl) rfl Tryz.underlying169 Tryz.sizeOf3) ?_
    refine zO st24 (k := 1) X X X X Tryz.sizeOf3 X X X ?_
    intro w36 st37
    refine zt<|zw<|U<|zg<|v_add X X t_om X<|v_mvI X X<|Y ?_
    refine ⟨⟨k + 1, c0, c1, (x * ((s / 2 ^ (k : Int).toNat) % 2)), c3, c4, c5, h22⟩, ⟨rfl, trivial⟩, ?_, ⟨le23, st37, ?_, ?_⟩, ?_⟩
    ·exact zH
    ·first | omega | (simp; omega)
    ·simp only [sixK, Six.mk.injEq] at hc ⊢
     obtain ⟨q0, q1, q2, q3, q4, q5⟩ := hc
     refine ⟨?_, ?_, ?_, ?_, ?_, ?_⟩ <;> first | (rw [sixAt_old (by omega)]; assumption) | (exact (sixAt_new' (by omega) hx).symm)
    ·show t.length - ((k + 1)) < t.length - k
     omega
   ·
    refine zg<|v_mvI X X<|v_mvI X X<|v_mvI X X<|v_mvI X X ?_
    refine zk rfl rfl (r_shr rfl rfl (by omega) (by omega)) ?_
    refine zk rfl rfl (r_and1 rfl rfl (by have q_ := bits_ok (b := (k : Int)) hs0.1 hs0.2; omega) (by have q_ := bits_ok (b := (k : Int)) hs0.1 hs0.2; omega)) ?_
    refine zk rfl rfl (r_mul rfl rfl (by have q_ := hb6 t (List.mem_of_getElem? ht) x (List.mem_of_getElem? hx); rcases bit_01 (s := s) (j := (k : Int)) with q2_ | q2_ <;> (rw [bitN] at q2_; rw [q2_]; omega))) ?_
    refine zk rfl rfl (zae rfl rfl (show _ = ((3 : Nat) : Int) by rw [hk31]; rfl) rfl Tryz.underlying169 Tryz.sizeOf3) ?_
    refine zO st24 (k := 1) X X X X Tryz.sizeOf3 X X X ?_
    intro w38 st39
    refine zt<|zw<|U<|zg<|v_add X X t_om X<|v_mvI X X<|Y ?_
    refine ⟨⟨k + 1, c0, c1, c2, (x * ((s / 2 ^ (k : Int).toNat) % 2)), c4, c5, h22⟩, ⟨rfl, trivial⟩, ?_, ⟨le23, st39, ?_, ?_⟩, ?_⟩
    ·exact zH
    ·first | omega | (simp; omega)
    ·simp only [sixK, Six.mk.injEq] at hc ⊢
     obtain ⟨q0, q1, q2, q3, q4, q5⟩ := hc
     refine ⟨?_, ?_, ?_, ?_, ?_, ?_⟩ <;> first | (rw [sixAt_old (by omega)]; assumption) | (exact (sixAt_new' (by omega) hx).symm)
    ·show t.length - ((k + 1)) < t.length - k
     omega
   ·
    refine zg<|v_mvI X X<|v_mvI X X<|v_mvI X X<|v_mvI X X ?_
    refine zk rfl rfl (r_shr rfl rfl (by omega) (by omega)) ?_
    refine zk rfl rfl (r_and1 rfl rfl (by have q_ := bits_ok (b := (k : Int)) hs0.1 hs0.2; omega) (by have q_ := bits_ok (b := (k : Int)) hs0.1 hs0.2; omega)) ?_
    refine zk rfl rfl (r_mul rfl rfl (by have q_ := hb6 t (List.mem_of_getElem? ht) x (List.mem_of_getElem? hx); rcases bit_01 (s := s) (j := (k : Int)) with q2_ | q2_ <;> (rw [bitN] at q2_; rw [q2_]; omega))) ?_
    refine zk rfl rfl (zae rfl rfl (show _ = ((4 : Nat) : Int) by rw [hk31]; rfl) rfl Tryz.underlying169 Tryz.sizeOf3) ?_
    refine zO st24 (k := 1) X X X X Tryz.sizeOf3 X X X ?_
    intro w40 st41
    refine zt<|zw<|U<|zg<|v_add X X t_om X<|v_mvI X X<|Y ?_
    refine ⟨⟨k + 1, c0, c1, c2, c3, (x * ((s / 2 ^ (k : Int).toNat) % 2)), c5, h22⟩, ⟨rfl, trivial⟩, ?_, ⟨le23, st41, ?_, ?_⟩, ?_⟩
    ·exact zH
    ·first | omega | (simp; omega)
    ·simp only [sixK, Six.mk.injEq] at hc ⊢
     obtain ⟨q0, q1, q2, q3, q4, q5⟩ := hc
     refine ⟨?_, ?_, ?_, ?_, ?_, ?_⟩ <;> first | (rw [sixAt_old (by omega)]; assumption) | (exact (sixAt_new' (by omega) hx).symm)
    ·show t.length - ((k + 1)) < t.length - k
     omega
   ·
    refine zg<|v_mvI X X<|v_mvI X X<|v_mvI X X<|v_mvI X X ?_
    refine zk rfl rfl (r_shr rfl rfl (by omega) (by omega)) ?_
    refine zk rfl rfl (r_and1 rfl rfl (by have q_ := bits_ok (b := (k : Int)) hs0.1 hs0.2; omega) (by have q_ := bits_ok (b := (k : Int)) hs0.1 hs0.2; omega)) ?_
    refine zk rfl rfl (r_mul rfl rfl (by have q_ := hb6 t (List.mem_of_getElem? ht) x (List.mem_of_getElem? hx); rcases bit_01 (s := s) (j := (k : Int)) with q2_ | q2_ <;> (rw [bitN] at q2_; rw [q2_]; omega))) ?_
    refine zk rfl rfl (zae rfl rfl (show _ = ((5 : Nat) : Int) by rw [hk31]; rfl) rfl Tryz.underlying169 Tryz.sizeOf3) ?_
    refine zO st24 (k := 1) X X X X Tryz.sizeOf3 X X X ?_
    intro w42 st43
    refine zt<|zw<|U<|zg<|v_add X X t_om X<|v_mvI X X<|Y ?_
    refine ⟨⟨k + 1, c0, c1, c2, c3, c4, (x * ((s / 2 ^ (k : Int).toNat) % 2)), h22⟩, ⟨rfl, trivial⟩, ?_, ⟨le23, st43, ?_, ?_⟩, ?_⟩
    ·exact zH
    ·first | omega | (simp; omega)
    ·simp only [sixK, Six.mk.injEq] at hc ⊢
     obtain ⟨q0, q1, q2, q3, q4, q5⟩ := hc
     refine ⟨?_, ?_, ?_, ?_, ?_, ?_⟩ <;> first | (rw [sixAt_old (by omega)]; assumption) | (exact (sixAt_new' (by omega) hx).symm)
    ·show t.length - ((k + 1)) < t.length - k
     omega
  ·
   replace c26 := of_decide_eq_false c26
   refine zL<|ze<|ze<|zF<|U<|zf<|zf ?_
   have hkey : Six.mk c0 c1 c2 c3 c4 c5 = sixK t s 6 := by rw [← sixK_len (hl t (List.mem_of_getElem? ht)), show t.length = k by omega]; exact hc
   refine zg<|v_move (v := (.map (some mb6))) X X<|v_load_ball (st24.get (k := 1) X) X Tryz.isAgg169 Tryz.sizeOf169 X X<|zk X X (r_lookF (k := (Six.mk c0 c1 c2 c3 c4 c5)) (zu := false) (six_key Tryz.underlying169 Tryz.underlying3 Tryz.isAgg3 Tryz.sizeOf3) Tryz.underlying168 hM_5 (st24.ent (k := 0) X) Tryz.zeroValue4 X X X)<|Y ?_
   refine zh rfl (fun c44 => ?_) (fun c44 => ?_)
   ·
    refine W.sr<|v_asB X X<|Y<|zo<|E<|zn<|E<|E<|zn<|E<|za Tryz.results61 ?_
    refine ⟨h22, _, rfl, st24.done, ?_⟩
    refine zj ?_
    exact (tells_stop hl he ht (by rw [← hm, ← hkey]; exact c44)).symm
   ·
    refine zr<|U<|zg<|v_move (v := (.map (some mb6))) X X<|v_load_ball (st24.get (k := 1) X) X Tryz.isAgg169 Tryz.sizeOf169 X X ?_
    refine OpsL.mapInsertF (i := 0) st24 hM_5 rfl hN_5 (six_key Tryz.underlying169 Tryz.underlying3 Tryz.isAgg3 Tryz.sizeOf3) Tryz.underlying168 (k := (Six.mk c0 c1 c2 c3 c4 c5)) (by rw [hm, hkey]; rw [hm, hkey] at *; exact sixM_none (by assumption)) rfl rfl (u := true) rfl ?_
    intro o45 w46 _ e47 f48 nd49 st50
    subst e47
    refine zt<|zw<|U<|zg<|v_add X X t_om X<|v_mvI X X<|Y ?_
    refine ⟨⟨i + 1, (putM m (Six.mk c0 c1 c2 c3 c4 c5) true), o45, h22⟩, ⟨rfl, trivial⟩, ?_, ⟨(le9.trans le23), st50.take 1, ?_, ?_, ?_, ?_, ?_⟩, ?_⟩
    ·exact zH
    ·have q := f48
     exact q
    ·have q := nd49
     exact q
    ·first | omega | (simp; omega)
    ·exact all_lt_succ hT (tells_next hl he ht (by rw [← hm, ← hkey]; simpa using c44))
    ·intro x_; rw [look_putM, sixM_succ ht, hm, hkey]
    ·show ts.length - ((i + 1)) < ts.length - i
     omega
 ·
  replace c12 := of_decide_eq_false c12
  refine zL<|ze<|ze<|zF<|U<|W.sr<|v_asB X X<|Y<|zo<|za Tryz.results61 ?_
  refine ⟨h8, _, rfl, st10.done, ?_⟩
  refine zj ?_
  exact (range_all hT (by omega)).symm
set_option maxRecDepth 4000 in
theorem c_vote_Ask_2 {h : Heap} {w : World} (hs : Sub h w) {a_v : Value} {a : (List Int)} (a_f : Sl LInt h a_v a) {b_v : Value} {b : (List Int)} (b_f : Sl LInt h b_v b) : Calls Tryz.prog 64 #[a_v, b_v] w (Rets h w (fun _ _ res_ => res_ = .bool ((beforeL a b)))) := by
 refine zz (n := 16) (args := [a_v, b_v]) Tryz.func64 X X X ?_
 have st0 : St h w h w [] := St.start hs
 have a_f_b := a_f.le
 have b_f_b := b_f.le
 refine W.sr<|v_asB X X<|Y<|W.sr<|v_move (v := a_v) X X<|v_len a_f X Tryz.underlying42 X<|v_move (v := b_v) X X<|v_len b_f X Tryz.underlying42 X ?_
 refine zk rfl rfl (r_sub rfl rfl (by omega)) ?_
 refine v_move (v := a_v) X X<|v_move (v := b_v) X X<|zi st0 X X X Tryz.call66 X (c_slices_Compare_Lint_int st0.sub a_f b_f) ?_
 intro r1 w2 h3 le4 st5 q6
 obtain rfl := q6
 refine zN (L := LInt) (xs := [((a.length : Int) - (b.length : Int)), (cmpL (a) (b))]) (cs := [.int .i64 ((a.length : Int) - (b.length : Int)), .int .i64 (cmpL (a) (b))]) st5 (Enc.cons (L := LInt) (vs := [.int .i64 ((a.length : Int) - (b.length : Int))]) (x := ((a.length : Int) - (b.length : Int))) (h := h3) (X) (Enc.cons (L := LInt) (vs := [.int .i64 (cmpL (a) (b))]) (x := (cmpL (a) (b))) (h := h3) (X) Enc.nil)) X X X Tryz.underlying42 Tryz.info3 X X X t_kr ?_
 intro v7 w8 h11 le12 f9 st10
 refine zi st10 X X X Tryz.call65 X (c_cmp_Or_int st10.sub f9) ?_
 intro r13 w14 h15 le16 st17 q18
 obtain rfl := q18
 refine v_lss X X X<|v_asB X X<|Y<|zo<|za Tryz.results64 ?_
 refine ⟨h15, _, rfl, st17.done, ?_⟩
 refine zj ?_
 exact before_eq a b
end Go.Pk

namespace Go.Pk
open Go Go.RowKit Go.Proofs
set_option maxRecDepth 4000 in
theorem c_vote_first_int {h : Heap} {w : World} (hs : Sub h w) {g : FuncId} {caps : List Value} {A : List (Int) → Heap → Value → Int → Prop} {T_ : List (Int)} (eg : ∀ a w, (callFunc g a).run Tryz.prog w = .ok (.enter g a) w) (seq : GivesA Tryz.prog g caps A (fun xs => xs = T_) h) {g2 : FuncId} {caps2 : List Value} {lt : Int → Int → Bool} {B : Int → Prop} (eg2 : ∀ a w, (callFunc g2 a).run Tryz.prog w = .ok (.enter g2 a) w) (hA : ∀ pre h u x, A pre h u x → u = .int .i64 x ∧ B x) (hB : ∀ h' w' x y, Le h h' → Sub h' w' → B x → B y → Calls Tryz.prog g2 (.int .i64 x :: .int .i64 y :: caps2).toArray w' (Rets h' w' fun _ _ r => r = .bool (lt x y))) : Calls Tryz.prog 71 #[.func (.func g) #[] caps.toArray, .func (.func g2) #[] caps2.toArray] w (Rets h w (fun _ _ res_ => res_ = .int .i64 ((firstL lt 0 T_)))) := by
 refine V.calls (n := 20) (args := [.func (.func g) #[] caps.toArray, .func (.func g2) #[] caps2.toArray]) Tryz.func71 X X X ?_
 have st0 : St h w h w [] := St.start hs
 refine V.seq<|V.region X<|zy st0 (v := (.func (.func g2) #[] caps2.toArray)) (cs := [(.func (.func g2) #[] caps2.toArray)]) X X X ?_
 intro b1 w2 h3 le4 hc5 st6
 refine v_asI X X<|zt<|zY<|V.seq<|V.region X<|zD st6 Tryz.zeroValue3 X X ?_
 intro b7 w8 st9
 refine zt<|zY<|V.seq<|V.region X<|zD st9 Tryz.zeroValue4 X X ?_
 intro b10 w11 st12
 refine zO st12 (k := 1) X X X X Tryz.sizeOf4 X X X ?_
 intro w13 st14
 refine zt<|zY<|V.seq<|V.seq<|V.region X<|v_move X X<|zt<|zY<|V.block ?_
 refine V.rangeFuncP (I := fun xs _ own_ => own_ = [[(b7, .cells (List.toArray [.int .i64 (firstL lt 0 xs)]) 3)], [(b10, .cells (List.toArray [.bool (!List.isEmpty xs)]) 4)]] ∧ ∀ x ∈ xs, B x) (Ix := fun _ _ _ _ => False) st14 rfl eg rfl (seq _ _ _ le4) (by rintro _ _ _ _ h_ _; exact h_) (by intro _ _ _ _ _ h_ _; exact h_) ⟨rfl, by intro _ h_; cases h_⟩ ?_ ?_ ?_
 ·rintro l_ pre x h15 w16 _ tail u17 le18 ⟨rfl, hi20⟩ st19 hA21
  obtain ⟨rfl, hBx⟩ := hA _ _ _ _ hA21
  refine V.region X<|v_asI X X<|zt ?_
  refine APost.mk (own2 := [[(b7, .cells (List.toArray [.int .i64 (firstL lt 0 pre)]) 3)], [(b10, .cells (List.toArray [.bool (!List.isEmpty pre)]) 4)]]) (Le.refl _) st19 ?_
  intro tail24 w23 st22
  refine V.block<|V.seq<|V.region X<|v_load_b1 (st22.get (k := 1) X) X X Tryz.isAgg4 X<|v_not X X<|v_mvB X X ?_
  refine zx (d := 12) rfl (fun g25 => ?_) (fun g25 => ?_)
  ·
   refine Z X X X X X<|Z X X X X X<|Z X X X X X<|Z X X X X X<|v_pickT (v := (.bool _)) X X X<|zt<|zY ?_
   refine V.cond rfl (fun c26 => ?_) (fun c26 => ?_)
   ·
    refine V.region X<|v_mvI X X<|zO st22 (k := 0) X X X X Tryz.sizeOf3 X X X ?_
    intro w27 st28
    refine zO st28 (k := 1) X X X X Tryz.sizeOf4 X X X ?_
    intro w29 st30
    refine zt<|BlkV.norm ?_
    refine RPost.norm (own3 := [[(b7, .cells (List.toArray [.int .i64 x]) 3)], [(b10, .cells (List.toArray [.bool true]) 4)]]) (Le.refl _) st30 ⟨?_, ?_⟩
    ·rw [first_one (by simpa using g25)]; simp
    ·exact fun z_ hz_ => (List.mem_append.1 hz_).elim (hi20 z_) (fun e_ => by rw [List.mem_singleton] at e_; rw [e_]; exact hBx)
   ·
    cases c26
  ·
   refine M X X (d := 12) X<|v_load_cells1 (j := 0) st22.sub (hc5.up le18) X X X Tryz.isAgg123 X<|M X X (d := 12) X<|v_mvI X X<|M X X (d := 12) X<|v_load_b1 (st22.get (k := 0) X) X X Tryz.isAgg3 X<|M X X (d := 12) X ?_
   refine OpsL.callFV (fs := []) (cs := caps2) st22 rfl rfl rfl rfl eg2 rfl (hB _ _ _ _ (le4.trans le18) st22.sub hBx (hi20 _ (firstL_mem (by simpa using g25)))) ?_
   intro r31 w32 h33 le34 st35 q36
   obtain rfl := q36
   refine v_pickF (v := (.bool _)) X X X<|zt<|zY ?_
   refine V.cond rfl (fun c37 => ?_) (fun c37 => ?_)
   ·
    refine V.region X<|v_mvI X X<|zO st35 (k := 0) X X X X Tryz.sizeOf3 X X X ?_
    intro w38 st39
    refine zO st39 (k := 1) X X X X Tryz.sizeOf4 X X X ?_
    intro w40 st41
    refine zt<|BlkV.norm ?_
    refine RPost.norm (own3 := [[(b7, .cells (List.toArray [.int .i64 x]) 3)], [(b10, .cells (List.toArray [.bool true]) 4)]]) le34 st41 ⟨?_, ?_⟩
    ·rw [first_new (by simpa using g25) (by simpa using c37)]; simp
    ·exact fun z_ hz_ => (List.mem_append.1 hz_).elim (hi20 z_) (fun e_ => by rw [List.mem_singleton] at e_; rw [e_]; exact hBx)
   ·
    refine V.skip<|BlkV.norm ?_
    refine RPost.norm (own3 := [[(b7, .cells (List.toArray [.int .i64 (firstL lt 0 pre)]) 3)], [(b10, .cells (List.toArray [.bool (!List.isEmpty pre)]) 4)]]) le34 st35 ⟨?_, ?_⟩
    ·rw [first_old (by simpa using g25) (by simpa using c37)]; have q_ : (!List.isEmpty pre) = true := (by simpa using g25); rw [q_]; simp
    ·exact fun z_ hz_ => (List.mem_append.1 hz_).elim (hi20 z_) (fun e_ => by rw [List.mem_singleton] at e_; rw [e_]; exact hBx)
 ·rintro D42 xs h43 w44 _ le45 hS46 ⟨rfl, hi47⟩ st48
  refine BlkV.norm<|zY<|V.seq<|V.region X<|v_load_b1 (st48.get (k := 0) X) X X Tryz.isAgg3 X<|v_asI X X<|zt<|zY<|V.ret<|PostV.one (own := [[(b7, .cells (List.toArray [.int .i64 (firstL lt 0 xs)]) 3)], [(b10, .cells (List.toArray [.bool (!List.isEmpty xs)]) 4)]]) st48 ?_
  intro w50 st49
  refine za Tryz.results71 ?_
  refine ⟨h43, _, rfl, st49.done, ?_⟩
  refine zB ?_
  rw [hS46]
 ·intro _ _ _ _ _ _ _ hf_; exact hf_.elim
set_option maxRecDepth 4000 in
theorem c_vote_first_Lint {h : Heap} {w : World} (hs : Sub h w) {g : FuncId} {caps : List Value} {A : List (List Int) → Heap → Value → List Int → Prop} {T_ : List (List Int)} (eg : ∀ a w, (callFunc g a).run Tryz.prog w = .ok (.enter g a) w) (seq : GivesA Tryz.prog g caps A (fun xs => xs = T_) h) {g2 : FuncId} {caps2 : List Value} {lt : List Int → List Int → Bool} {B : List Int → Prop} (eg2 : ∀ a w, (callFunc g2 a).run Tryz.prog w = .ok (.enter g2 a) w) (hA : ∀ pre h u x, A pre h u x → Sl LInt h u x ∧ B x) (hB : ∀ h' w' x y vx vy, Le h h' → Sub h' w' → Sl LInt h' vx x → Sl LInt h' vy y → B x → B y → Calls Tryz.prog g2 (vx :: vy :: caps2).toArray w' (Rets h' w' fun _ _ r => r = .bool (lt x y))) : Calls Tryz.prog 63 #[.func (.func g) #[] caps.toArray, .func (.func g2) #[] caps2.toArray] w (Rets h w (fun h' _ res_ => ∃ u0, res_ = u0 ∧ Sl LInt h' u0 ((firstL lt [] T_)))) := by
 refine V.calls (n := 20) (args := [.func (.func g) #[] caps.toArray, .func (.func g2) #[] caps2.toArray]) Tryz.func63 X X X ?_
 have st0 : St h w h w [] := St.start hs
 refine V.seq<|V.region X<|zy st0 (v := (.func (.func g2) #[] caps2.toArray)) (cs := [(.func (.func g2) #[] caps2.toArray)]) X X X ?_
 intro b1 w2 h3 le4 hc5 st6
 refine v_asL X X<|zt<|zY<|V.seq<|V.region X<|zD st6 Tryz.zeroValue42 X X ?_
 intro b7 w8 st9
 refine zt<|zY<|V.seq<|V.region X<|zD st9 Tryz.zeroValue4 X X ?_
 intro b10 w11 st12
 refine zO st12 (k := 1) X X X X Tryz.sizeOf4 X X X ?_
 intro w13 st14
 refine zt<|zY<|V.seq<|V.seq<|V.region X<|v_move X X<|zt<|zY<|V.block ?_
 refine V.rangeFuncP (I := fun xs h_ own_ => ∃ (v_ : Value), own_ = [[(b7, .cells (List.toArray [v_]) 42)], [(b10, .cells (List.toArray [.bool (!List.isEmpty xs)]) 4)]] ∧ (Sl LInt h_ v_ (firstL lt [] xs) ∧ ∀ x ∈ xs, B x)) (Ix := fun _ _ _ _ => False) st14 rfl eg rfl (seq _ _ _ le4) (by rintro xs_ h1_ h2_ o1_ ⟨v_, rfl, q_, r_⟩ l_; exact ⟨v_, rfl, q_.up l_, r_⟩) (by intro _ _ _ _ _ h_ _; exact h_) ⟨.slice none 0 0, rfl, by exact ⟨Sl.nil _ _, fun _ h_ => by cases h_⟩⟩ ?_ ?_ ?_
 ·rintro l_ pre x h15 w16 _ tail u17 le18 ⟨v_, rfl, hi20⟩ st19 hA21
  have hBx := (hA _ _ _ _ hA21).2
  refine V.region X<|v_assign (v := u17) X X<|zt ?_
  refine APost.mk (own2 := [[(b7, .cells (List.toArray [v_]) 42)], [(b10, .cells (List.toArray [.bool (!List.isEmpty pre)]) 4)]]) (Le.refl _) st19 ?_
  intro tail24 w23 st22
  refine V.block<|V.seq<|V.region X<|v_load_b1 (st22.get (k := 1) X) X X Tryz.isAgg4 X<|v_not X X<|v_mvB X X ?_
  refine zx (d := 12) rfl (fun g25 => ?_) (fun g25 => ?_)
  ·
   refine Z X X X X X<|Z X X X X X<|Z X X X X X<|Z X X X X X<|v_pickT (v := (.bool _)) X X X<|zt<|zY ?_
   refine V.cond rfl (fun c26 => ?_) (fun c26 => ?_)
   ·
    refine V.region X<|v_move (v := u17) X X<|zO st22 (k := 0) X X (v := u17) X (hA _ _ _ _ hA21).1.one Tryz.sizeOf42 X X X ?_
    intro w27 st28
    refine zO st28 (k := 1) X X X X Tryz.sizeOf4 X X X ?_
    intro w29 st30
    refine zt<|BlkV.norm ?_
    refine RPost.norm (own3 := [[(b7, .cells (List.toArray [u17]) 42)], [(b10, .cells (List.toArray [.bool true]) 4)]]) (Le.refl _) st30 ⟨u17, ?_, ?_⟩
    ·simp
    ·exact ⟨Sl.to (hA _ _ _ _ hA21).1 (by exact (first_one (by simpa using g25)).symm), fun z_ hz_ => (List.mem_append.1 hz_).elim (hi20.2 z_) (fun e_ => by rw [List.mem_singleton] at e_; rw [e_]; exact hBx)⟩
   ·
    cases c26
  ·
   refine M X X (d := 12) X<|v_load_cells1 (j := 0) st22.sub (hc5.up le18) X X X Tryz.isAgg47 X<|M X X (d := 12) X<|v_move (v := u17) X X<|M X X (d := 12) X<|v_load_b1 (st22.get (k := 0) X) X X Tryz.isAgg42 X<|M X X (d := 12) X ?_
   refine OpsL.callFV (fs := []) (cs := caps2) st22 rfl rfl rfl rfl eg2 rfl (hB _ _ _ _ _ _ (le4.trans le18) st22.sub (hA _ _ _ _ hA21).1 hi20.1 hBx (hi20.2 _ (firstL_mem (by simpa using g25)))) ?_
   intro r31 w32 h33 le34 st35 q36
   obtain rfl := q36
   refine v_pickF (v := (.bool _)) X X X<|zt<|zY ?_
   refine V.cond rfl (fun c37 => ?_) (fun c37 => ?_)
   ·
    refine V.region X<|v_move (v := u17) X X<|zO st35 (k := 0) X X (v := u17) X (hA _ _ _ _ hA21).1.one Tryz.sizeOf42 X X X ?_
    intro w38 st39
    refine zO st39 (k := 1) X X X X Tryz.sizeOf4 X X X ?_
    intro w40 st41
    refine zt<|BlkV.norm ?_
    refine RPost.norm (own3 := [[(b7, .cells (List.toArray [u17]) 42)], [(b10, .cells (List.toArray [.bool true]) 4)]]) le34 st41 ⟨u17, ?_, ?_⟩
    ·simp
    ·exact ⟨Sl.to ((hA _ _ _ _ hA21).1.up le34) (by exact (first_new (by simpa using g25) (by simpa using c37)).symm), fun z_ hz_ => (List.mem_append.1 hz_).elim (hi20.2 z_) (fun e_ => by rw [List.mem_singleton] at e_; rw [e_]; exact hBx)⟩
   ·
    refine V.skip<|BlkV.norm ?_
    refine RPost.norm (own3 := [[(b7, .cells (List.toArray [v_]) 42)], [(b10, .cells (List.toArray [.bool (!List.isEmpty pre)]) 4)]]) le34 st35 ⟨v_, ?_, ?_⟩
    ·have q_ : (!List.isEmpty pre) = true := (by simpa using g25); rw [q_]; simp
    ·exact ⟨Sl.to (hi20.1.up le34) (by exact (first_old (by simpa using g25) (by simpa using c37)).symm), fun z_ hz_ => (List.mem_append.1 hz_).elim (hi20.2 z_) (fun e_ => by rw [List.mem_singleton] at e_; rw [e_]; exact hBx)⟩
 ·rintro D42 xs h43 w44 _ le45 hS46 ⟨v_, rfl, hi47⟩ st48
  refine BlkV.norm<|zY<|V.seq<|V.region X<|v_load_b1 (st48.get (k := 0) X) X X Tryz.isAgg42 X<|v_assign (v := v_) X X<|zt<|zY<|V.ret<|PostV.one (own := [[(b7, .cells (List.toArray [v_]) 42)], [(b10, .cells (List.toArray [.bool (!List.isEmpty xs)]) 4)]]) st48 ?_
  intro w50 st49
  refine za Tryz.results63 ?_
  refine ⟨h43, _, rfl, st49.done, ?_⟩
  refine ⟨_, rfl, Sl.to hi47.1 ?_⟩
  rw [hS46]
 ·intro _ _ _ _ _ _ _ hf_; exact hf_.elim
end Go.Pk
