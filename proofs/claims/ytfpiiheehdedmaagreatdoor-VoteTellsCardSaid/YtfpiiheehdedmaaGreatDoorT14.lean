/- A PART OF THE PROOF: contracts of functions, each walked once (much of it printed by a program of the author's own). -/
import Derived.Test.YtfpiiheehdedmaaGreatDoorT13
import Derived.Test.YtfpiiheehdedmaaGreatDoorT2
import Derived.Test.YtfpiiheehdedmaaGreatDoorT12
set_option linter.unusedSimpArgs false
set_option linter.unusedVariables false
namespace Go.Pk
open Go Go.RowKit Go.Proofs
set_option maxRecDepth 4000 in
theorem c_vote_Ask_1 {h0 h : Heap} {w0 w : World} {rest : Own} {l : Nat} {p_b : Nat} {p : Poll} {p_v0 : Value} (p_f0 : Sl LChapter h p_v0 p.text.chapters) {p_v1 : Value} (p_f1 : Sl LRule h p_v1 p.lexicon.rules) {p_v2 : Value} (p_f2 : Sl LDecision h p_v2 p.lexicon.decisions) {p_v3 : Value} (p_f3 : Sl LQuestion h p_v3 p.questions) {p_v4 : Value} (p_f4 : Sl LVoter h p_v4 p.voters) (p_c : Cells h p_b 0 [p_v0, p_v1, p_v2, p_v3, p_v4]) {ls_b : Nat} {ls_v : Value} {ls : (List (List Int))} (ls_f : Sl (LSl LInt) h ls_v ls) (ls_c : Cells h ls_b 0 [ls_v]) {J Jx : List (List Int) → Heap → Own → Prop} (hJm : ∀ xs h1 h2 o, J xs h1 o → Le h1 h2 → J xs h2 o) (hJxm : ∀ xs h1 h2 o, Jx xs h1 o → Le h1 h2 → Jx xs h2 o) (hJ0 : J [] h rest) (hY : ∀ pre x h1 w1 B rest us, Le h h1 → J pre h1 rest → St h0 w0 h1 w1 (B ++ rest) → (∃ u_, us = [u_] ∧ Sl LInt h1 u_ x ∧ x.length ≤ 6) → Yields Tryz.prog l us.toArray w1 fun v w2 => ∃ h2 rest2, Le h1 h2 ∧ St h0 w0 h2 w2 (B ++ rest2) ∧ ((v = .bool true ∧ J (pre ++ [x]) h2 rest2) ∨ (v = .bool false ∧ Jx (pre ++ [x]) h2 rest2))) (hp : pollB p = true) (hl : ∀ t ∈ ls, t ∈ truthsL p) (hn : ls.length ≤ 1000) (st0 : St h0 w0 h w rest) : Calls Tryz.prog 60 #[.func (.yield l) #[] #[], .pointer (some ⟨p_b, 0, none⟩), .pointer (some ⟨ls_b, 0, none⟩)] w (fun e_ w' => ∃ h' rest' v_, e_ = .returned v_ ∧ Le h h' ∧ St h0 w0 h' w' rest' ∧ ((∃ xs, xs = askC ls p.questions.length (2 ^ p.questions.length) ∧ J xs h' rest') ∨ (∃ pre, Jx pre h' rest'))) := by
 refine zz (n := 23) (args := [.func (.yield l) #[] #[], .pointer (some ⟨p_b, 0, none⟩), .pointer (some ⟨ls_b, 0, none⟩)]) Tryz.func60 X X X ?_
 have p_f0_b := p_f0.le
 have p_f1_b := p_f1.le
 have p_f2_b := p_f2.le
 have p_f3_b := p_f3.le
 have p_f4_b := p_f4.le
 have ls_f_b := ls_f.le
 have hpl := poll_len hp
 have hpw := pow_le (n := p.questions.length) (by omega)
 refine W.sr<|v_field_addr X Tryz.underlying32 X Tryz.sizeOf29 X X<|v_load_cells1 (j := 3) st0.sub p_c X X X Tryz.isAgg29 X<|v_len p_f3 X Tryz.underlying29 X ?_
 refine zk rfl rfl (r_shl1 rfl rfl (by omega) (by omega)) ?_
 refine v_mvI X X<|Y<|zs ?_
 refine zG [4, 9, 10, 11, 12, 13, 14, 15, 16, 17, 18, 19, 20, 21, 22] (G := Nat × Own × Heap) (fun ⟨s, rest, h1⟩ => [(9, .int .i64 (s : Int))]) (fun ⟨s, rest, h1⟩ w' => Le h h1 ∧ St h0 w0 h1 w' (rest) ∧ (s ≤ 2 ^ p.questions.length) ∧ (J (askC ls 6 s) h1 rest)) (fun ⟨s, rest, h1⟩ => 2 ^ p.questions.length - s) ⟨0, rest, h⟩ ⟨rfl, trivial⟩ ⟨Le.refl _, st0, zK, (by exact hJm _ _ _ _ hJ0 (Le.refl _))⟩ ?_
 rintro ⟨s, rest, h1⟩ _ w4 ⟨le2, st3, hs, hJ⟩
 refine W.sr<|v_lss X X X<|Y<|zf ?_
 refine zh rfl (fun c5 => ?_) (fun c5 => ?_)
 ·
  replace c5 := of_decide_eq_true c5
  refine zr<|U<|zf<|zs<|W.sr<|v_mvI X X<|v_asI X X<|Y<|W.sr<|v_load_cells1 (j := 0) st3.sub (ls_c.up le2) X X X Tryz.isAgg91 X<|v_mvI X X ?_
  refine zi st3 rfl rfl rfl Tryz.call61 rfl (c_vote_tells st3.sub (ls_f.up le2) _ (by omega) (by intro t_ ht_; have q_ := truth_len (hl t_ ht_); omega) (by intro t_ ht_ u_ hu_; rw [truth_len (hl t_ ht_), truth_len (hl u_ hu_)]) (by exact truths_small hp hl)) ?_
  intro r6 w7 h8 le9 st10 q11
  obtain rfl := q11
  refine v_mvB X X ?_
  refine zx (d := 15) rfl (fun g12 => ?_) (fun g12 => ?_)
  ·
   refine M X X (d := 15) X<|v_move X X<|M X X (d := 15) X<|v_mvI X X<|M X X (d := 15) X ?_
   refine zi st10 rfl rfl rfl Tryz.call62 rfl (c_vote_members st10.sub _ (by omega)) ?_
   intro r13 w14 h15 le16 st17 q18
   obtain ⟨v19, e21, f20⟩ := q18
   rw [← e21] at f20
   have f20_b := f20.le
   refine M X X (d := 15) X ?_
   have hJc := hJm _ _ _ _ hJ (le9.trans le16)
   have hAc : ∃ u_, [r13] = [u_] ∧ Sl LInt h15 u_ (membersL (s : Int) 6) ∧ (membersL (s : Int) 6).length ≤ 6 := ⟨_, rfl, f20, members_len _ _⟩
   refine OpsL.yieldsJ rfl rfl rfl rfl rfl (hY _ _ _ _ [] rest _ ((le2.trans le9).trans le16) hJc st17 hAc) ?_
   intro yb22 w23 h24 rest25 le26 st27 hj28 hx29
   refine M X X (d := 15) X<|v_not X X<|v_pickT (v := (.bool _)) X X X<|Y ?_
   refine zh rfl (fun c30 => ?_) (fun c30 => ?_)
   ·
    refine zo<|zn<|E<|E<|zn<|Post.ret0 Tryz.results60 ?_
    exact ⟨_, _, _, rfl, (((le2.trans le9).trans le16).trans le26), st27, .inr ⟨_, hJxm _ _ _ _ (hx29 (by simpa using c30)) (Le.refl _)⟩⟩
   ·
    refine zr<|zw<|U<|zg<|v_add X X t_om X<|v_mvI X X<|Y ?_
    refine ⟨⟨s + 1, rest25, h24⟩, ⟨rfl, trivial⟩, ?_, ⟨(((le2.trans le9).trans le16).trans le26), st27, ?_, ?_⟩, ?_⟩
    ·exact zH
    ·first | omega | (simp; omega)
    ·rw [askC_succ, if_pos g12]; exact hJm _ _ _ _ (hj28 (by simpa using c30)) (Le.refl _)
    ·show 2 ^ p.questions.length - ((s + 1)) < 2 ^ p.questions.length - s
     omega
  ·
   refine Z X X X X X<|Z X X X X X<|Z X X X X X<|Z X X X X X<|Z X X X X X<|v_pickF (v := (.bool _)) X X X<|Y ?_
   refine zh rfl (fun c31 => ?_) (fun c31 => ?_)
   ·
    cases c31
   ·
    refine zr<|zw<|U<|zg<|v_add X X t_om X<|v_mvI X X<|Y ?_
    refine ⟨⟨s + 1, rest, h8⟩, ⟨rfl, trivial⟩, ?_, ⟨(le2.trans le9), st10, ?_, ?_⟩, ?_⟩
    ·exact zH
    ·first | omega | (simp; omega)
    ·rw [askC_succ, if_neg (by rw [g12]; simp), List.append_nil]; exact hJm _ _ _ _ hJ le9
    ·show 2 ^ p.questions.length - ((s + 1)) < 2 ^ p.questions.length - s
     omega
 ·
  replace c5 := of_decide_eq_false c5
  refine zL<|ze<|ze<|zF<|Post.end0 Tryz.results60 ?_
  exact ⟨_, _, _, rfl, le2, st3, .inl ⟨_, rfl, by rw [← askC_six (by omega) _ (Nat.le_refl _), show 2 ^ p.questions.length = s by omega]; exact hJm _ _ _ _ hJ (Le.refl _)⟩⟩
set_option maxRecDepth 4000 in
theorem c_vote_Next_1 {h0 h : Heap} {w0 w : World} {rest : Own} {l : Nat} {p_b : Nat} {p : Poll} {p_v0 : Value} (p_f0 : Sl LChapter h p_v0 p.text.chapters) {p_v1 : Value} (p_f1 : Sl LRule h p_v1 p.lexicon.rules) {p_v2 : Value} (p_f2 : Sl LDecision h p_v2 p.lexicon.decisions) {p_v3 : Value} (p_f3 : Sl LQuestion h p_v3 p.questions) {p_v4 : Value} (p_f4 : Sl LVoter h p_v4 p.voters) (p_c : Cells h p_b 0 [p_v0, p_v1, p_v2, p_v3, p_v4]) {ls_b : Nat} {ls_v : Value} {ls : (List (List Int))} (ls_f : Sl (LSl LInt) h ls_v ls) (ls_c : Cells h ls_b 0 [ls_v]) {J Jx : List (Int) → Heap → Own → Prop} (hJm : ∀ xs h1 h2 o, J xs h1 o → Le h1 h2 → J xs h2 o) (hJxm : ∀ xs h1 h2 o, Jx xs h1 o → Le h1 h2 → Jx xs h2 o) (hJ0 : J [] h rest) (hY : ∀ pre x h1 w1 B rest us, Le h h1 → J pre h1 rest → St h0 w0 h1 w1 (B ++ rest) → (∃ u_, us = [u_] ∧ u_ = .int .i64 x ∧ (0 ≤ x ∧ x < (p.questions.length : Int))) → Yields Tryz.prog l us.toArray w1 fun v w2 => ∃ h2 rest2, Le h1 h2 ∧ St h0 w0 h2 w2 (B ++ rest2) ∧ ((v = .bool true ∧ J (pre ++ [x]) h2 rest2) ∨ (v = .bool false ∧ Jx (pre ++ [x]) h2 rest2))) (hp : pollB p = true) (hl : ∀ t ∈ ls, t ∈ truthsL p) (hn : ls.length ≤ 1000) (st0 : St h0 w0 h w rest) : Calls Tryz.prog 69 #[.func (.yield l) #[] #[], .pointer (some ⟨p_b, 0, none⟩), .pointer (some ⟨ls_b, 0, none⟩)] w (fun e_ w' => ∃ h' rest' v_, e_ = .returned v_ ∧ Le h h' ∧ St h0 w0 h' w' rest' ∧ ((∃ xs, xs = nextC ls p.questions.length ∧ J xs h' rest') ∨ (∃ pre, Jx pre h' rest'))) := by
 refine zz (n := 24) (args := [.func (.yield l) #[] #[], .pointer (some ⟨p_b, 0, none⟩), .pointer (some ⟨ls_b, 0, none⟩)]) Tryz.func69 X X X ?_
 have p_f0_b := p_f0.le
 have p_f1_b := p_f1.le
 have p_f2_b := p_f2.le
 have p_f3_b := p_f3.le
 have p_f4_b := p_f4.le
 have ls_f_b := ls_f.le
 have hpl := poll_len hp
 refine W.sr<|v_field_addr X Tryz.underlying32 X Tryz.sizeOf29 X X<|v_load_cells1 (j := 3) st0.sub p_c X X X Tryz.isAgg29 X<|v_len p_f3 X Tryz.underlying29 X<|v_mvI X X<|Y<|zs ?_
 refine zG [4, 8, 9, 10, 11, 12, 13, 14, 15, 16, 17, 18, 19, 20, 21, 22, 23] (G := Nat × Own × Heap) (fun ⟨k, rest, h1⟩ => [(8, .int .i64 (k : Int))]) (fun ⟨k, rest, h1⟩ w' => Le h h1 ∧ St h0 w0 h1 w' (rest) ∧ (k ≤ p.questions.length) ∧ (J (nextC ls k) h1 rest)) (fun ⟨k, rest, h1⟩ => p.questions.length - k) ⟨0, rest, h⟩ ⟨rfl, trivial⟩ ⟨Le.refl _, st0, zK, (by exact hJm _ _ _ _ hJ0 (Le.refl _))⟩ ?_
 rintro ⟨k, rest, h1⟩ _ w4 ⟨le2, st3, hk, hJ⟩
 refine W.sr<|v_lss X X X<|Y<|zf ?_
 refine zh rfl (fun c5 => ?_) (fun c5 => ?_)
 ·
  replace c5 := of_decide_eq_true c5
  refine zr<|U<|zf<|zs<|W.sr<|v_mvI X X<|v_asI X X<|Y<|zf ?_
  rcases Bool.eq_false_or_eq_true (decide (((worstN (ls) ((k : Int)).toNat)) < (ls.length : Int))) with g6 | g6
  ·
   have g6_r := g6
   replace g6 := of_decide_eq_true g6
   refine zad (er := ([], [], [], [], 0)) (dsts := [11, 12, 13, 14, 15, 16, 17, 18, 19, 20, 21, 22]) st3 Tryz.mixed<|zq 0 [] X t_kr t_kr X X (fun hD wD τD hL hS hO  => (zc (j := 0) (hL.sub hS) (ls_c.up le2) X X X Tryz.isAgg91))<|zq 1 [] X t_kr t_kr X X (fun hD wD τD hL hS hO  => (r_mvI X)) ?_
   refine zJ 2 (.det (.int .i64 ((worstN (ls) ((k : Int)).toNat)))) [1, 0] rfl t_kr t_kr ?_ ?_
   ·
    intro hD wD τD hL hS hO _ _ _ _
    have st7 := St.start hS
    refine zi st7 rfl rfl rfl Tryz.call70 rfl (c_vote_worst st7.sub (ls_f.up (le2.trans hL)) _ (by omega) (by exact truths_three hp hl (by omega) (by omega)) (by exact hn)) ?_
    intro r8 w9 h10 le11 st12 q13
    obtain rfl := q13
    exact zt ⟨_, _, rfl, st12, (), rfl, trivial⟩
   refine zq 3 [] X t_kr t_kr X X (fun hD wD τD hL hS hO  => (zc (j := 0) (hL.sub hS) (ls_c.up le2) X X X Tryz.isAgg91))<|zq 4 [0] X t_kr t_kr X X (fun hD wD τD hL hS hO _ _ => (r_len (ls_f.up le2) X Tryz.underlying91))<|zq 5 [2, 0] X t_kr t_kr X X (fun hD wD τD hL hS hO _ _ _ _ => (Run.lit (r_lss X X) g6_r))<|zq 6 [0, 3] X t_kr t_kr X X (fun hD wD τD hL hS hO _ _ _ _ => (r_mvB X))<|zR 7 [0] X t_kr t_kr X X X (fun hD wD τD hL hS hO _ _ => ⟨rfl, (r_move X)⟩)<|zR 8 [1] X t_kr t_kr X X X (fun hD wD τD hL hS hO _ _ => ⟨rfl, (r_mvI X)⟩)<|Drw.ch<|Drw.ch<|Drw.ch<|Drw.nil X X X X X X ⟨t_kr, X, t_kr, X, t_kr, X, X, t_kr, (cx_cons X (cx_cons X (cx_cons X cx_nil)))⟩ ?_
   intro hE15 w16 _ le17 st18 _ _ _ _ _ _
   refine M X X (d := 17) X ?_
   have hJc := hJm _ _ _ _ hJ le17
   have hAc : ∃ u_, [Value.int .i64 (k : Int)] = [u_] ∧ (u_ = .int .i64 (k : Int) ∧ (0 ≤ (k : Int) ∧ (k : Int) < (p.questions.length : Int))) := ⟨_, rfl, rfl, by omega, by omega⟩
   refine OpsL.yieldsJ rfl rfl rfl rfl rfl (hY _ _ _ _ [] rest _ (le2.trans le17) hJc st18 hAc) ?_
   intro yb19 w20 h21 rest22 le23 st24 hj25 hx26
   refine zt ⟨_, rfl, _, _, le23, st24, ?_⟩
   intro hE28 w29 _ le30 st31 _ _
   refine M X X (d := 17) X<|v_not X X ?_
   refine zt ⟨_, rfl, _, _, Le.refl _, st31, ?_⟩
   intro hE33 w34 _ le35 st36 _ _
   refine v_pickT (v := (.bool _)) X X X ?_
   refine zt ⟨_, rfl, _, _, Le.refl _, st36, ?_⟩
   intro hE37 w38 _ le39 st40 _ _ _ _ _ _ _ _ _ _ _ _ _ _ _ _ _ _
   refine AllDeps.fin X<|U ?_
   refine zh rfl (fun c42 => ?_) (fun c42 => ?_)
   ·
    refine zo<|zn<|E<|E<|zn<|Post.ret0 Tryz.results69 ?_
    exact ⟨_, _, _, rfl, (((((le2.trans le17).trans le23).trans le30).trans le35).trans le39), st40, .inr ⟨_, hJxm _ _ _ _ (hx26 (by simpa using c42)) ((le30.trans le35).trans le39)⟩⟩
   ·
    refine zr<|zw<|U<|zg<|v_add X X t_om X<|v_mvI X X<|Y ?_
    refine ⟨⟨k + 1, rest22, hE37⟩, ⟨rfl, trivial⟩, ?_, ⟨(((((le2.trans le17).trans le23).trans le30).trans le35).trans le39), st40, ?_, ?_⟩, ?_⟩
    ·exact zH
    ·first | omega | (simp; omega)
    ·have q_ := g6; rw [Int.toNat_natCast] at q_; rw [nextC_succ, if_pos q_]; exact hJm _ _ _ _ (hj25 (by simpa using c42)) ((le30.trans le35).trans le39)
    ·show p.questions.length - ((k + 1)) < p.questions.length - k
     omega
  ·
   have g6_r := g6
   replace g6 := of_decide_eq_false g6
   refine zad (er := ([], [], [], [], 0)) (dsts := [11, 12, 13, 14, 15, 16, 17, 18, 19, 20, 21, 22]) st3 Tryz.mixed<|zq 0 [] X t_kr t_kr X X (fun hD wD τD hL hS hO  => (zc (j := 0) (hL.sub hS) (ls_c.up le2) X X X Tryz.isAgg91))<|zq 1 [] X t_kr t_kr X X (fun hD wD τD hL hS hO  => (r_mvI X)) ?_
   refine zJ 2 (.det (.int .i64 ((worstN (ls) ((k : Int)).toNat)))) [1, 0] rfl t_kr t_kr ?_ ?_
   ·
    intro hD wD τD hL hS hO _ _ _ _
    have st43 := St.start hS
    refine zi st43 rfl rfl rfl Tryz.call70 rfl (c_vote_worst st43.sub (ls_f.up (le2.trans hL)) _ (by omega) (by exact truths_three hp hl (by omega) (by omega)) (by exact hn)) ?_
    intro r44 w45 h46 le47 st48 q49
    obtain rfl := q49
    exact zt ⟨_, _, rfl, st48, (), rfl, trivial⟩
   refine zq 3 [] X t_kr t_kr X X (fun hD wD τD hL hS hO  => (zc (j := 0) (hL.sub hS) (ls_c.up le2) X X X Tryz.isAgg91))<|zq 4 [0] X t_kr t_kr X X (fun hD wD τD hL hS hO _ _ => (r_len (ls_f.up le2) X Tryz.underlying91))<|zq 5 [2, 0] X t_kr t_kr X X (fun hD wD τD hL hS hO _ _ _ _ => (Run.lit (r_lss X X) g6_r))<|zq 6 [0, 3] X t_kr t_kr X X (fun hD wD τD hL hS hO _ _ _ _ => (r_mvB X))<|zP 7 [0] X t_kr t_kr X X X X (fun hD wD τD hL hS hO _ _ => X)<|zP 8 [1] X t_kr t_kr X X X X (fun hD wD τD hL hS hO _ _ => X)<|zP 9 [1, 0, 2] X t_kr t_kr X X X X (fun hD wD τD hL hS hO _ _ _ _ _ _ => X)<|zP 10 [0, 3] X t_kr t_kr X X X X (fun hD wD τD hL hS hO _ _ _ _ => X)<|zq 11 [4, 0] X t_kr t_kr X X (fun hD wD τD hL hS hO _ _ _ _ => (r_pickF (v := (.bool _)) X X))<|Drw.nil X X X X X X ⟨t_kr, X, t_kr, X, t_kr, X, X, t_kr, cx_nil⟩ ?_
   intro hE50 w51 _ le52 st53 _ _ _ _ _ _ _ _ _ _ _ _ _ _ _ _ _ _ _ _ _ _ _ _
   refine AllDeps.fin X<|U ?_
   refine zh rfl (fun c55 => ?_) (fun c55 => ?_)
   ·
    cases c55
   ·
    refine zr<|zw<|U<|zg<|v_add X X t_om X<|v_mvI X X<|Y ?_
    refine ⟨⟨k + 1, rest, hE50⟩, ⟨rfl, trivial⟩, ?_, ⟨(le2.trans le52), st53, ?_, ?_⟩, ?_⟩
    ·exact zH
    ·first | omega | (simp; omega)
    ·have q_ := g6; rw [Int.toNat_natCast] at q_; rw [nextC_succ, if_neg q_, List.append_nil]; exact hJm _ _ _ _ hJ le52
    ·show p.questions.length - ((k + 1)) < p.questions.length - k
     omega
 ·
  replace c5 := of_decide_eq_false c5
  refine zL<|ze<|ze<|zF<|Post.end0 Tryz.results69 ?_
  exact ⟨_, _, _, rfl, le2, st3, .inl ⟨_, rfl, by rw [show p.questions.length = k by omega]; exact hJm _ _ _ _ hJ (Le.refl _)⟩⟩
set_option maxRecDepth 4000 in
theorem c_vote_Next_2 {h : Heap} {w : World} (hs : Sub h w) (a : Int) (b : Int) {ls_b : Nat} {ls_v : Value} {ls : (List (List Int))} (ls_f : Sl (LSl LInt) h ls_v ls) (ls_c : Cells h ls_b 0 [ls_v]) (ha : 0 ≤ a) (hb : 0 ≤ b) (hla : ∀ t ∈ ls, ∃ x_, t[a.toNat]? = some x_ ∧ 0 ≤ x_ ∧ x_ < 3) (hlb : ∀ t ∈ ls, ∃ x_, t[b.toNat]? = some x_ ∧ 0 ≤ x_ ∧ x_ < 3) (hn : ls.length ≤ 1000) : Calls Tryz.prog 72 #[.int .i64 a, .int .i64 b, .pointer (some ⟨ls_b, 0, none⟩)] w (Rets h w (fun _ _ res_ => res_ = .bool ((worseB ls a b)))) := by
 refine zz (n := 13) (args := [.int .i64 a, .int .i64 b, .pointer (some ⟨ls_b, 0, none⟩)]) Tryz.func72 X X X ?_
 have st0 : St h w h w [] := St.start hs
 have ls_f_b := ls_f.le
 refine W.sr<|v_asB X X<|Y<|zf<|zS Tryz.mixed t_kr (Cls h _) (Cls.drew st0)<|zm X X (fun _ hC => (zc (j := 0) hC.sub ls_c X X X Tryz.isAgg91))<|u_mvI X X ?_
 refine zU rfl rfl (fun _ => zT rfl Tryz.call70 rfl) (fun _ hC => Rets.quiet hC (c_vote_worst hC.sub ls_f _ (by first | exact ha | exact hb) (by first | exact hla | exact hlb) (by exact hn))) ?_
 refine zm X X (fun _ hC => (zc (j := 0) hC.sub ls_c X X X Tryz.isAgg91))<|u_mvI X X ?_
 refine zU rfl rfl (fun _ => zT rfl Tryz.call70 rfl) (fun _ hC => Rets.quiet hC (c_vote_worst hC.sub ls_f _ (by first | exact ha | exact hb) (by first | exact hla | exact hlb) (by exact hn))) ?_
 refine u_lss X X X<|u_asB X X<|zI ?_
 rintro w1 ⟨h2, s3⟩
 have st4 := st0.call0 s3
 refine U<|zo<|za Tryz.results72 ?_
 refine ⟨h2, _, rfl, st4.done, ?_⟩
 refine zj ?_
 rfl
set_option maxRecDepth 4000 in
theorem c_vote_Wrongs {h : Heap} {w : World} (hs : Sub h w) {p : Poll} {p_v0 : Value} (p_f0 : Sl LChapter h p_v0 p.text.chapters) {p_v1 : Value} (p_f1 : Sl LRule h p_v1 p.lexicon.rules) {p_v2 : Value} (p_f2 : Sl LDecision h p_v2 p.lexicon.decisions) {p_v3 : Value} (p_f3 : Sl LQuestion h p_v3 p.questions) {p_v4 : Value} (p_f4 : Sl LVoter h p_v4 p.voters) (voter : Int) (K1 : Cells h 1 0 Tryz.glob1) (K0 : Cells h 0 0 Tryz.glob0) : Calls Tryz.prog 17 #[.agg #[p_v0, p_v1, p_v2, p_v3, p_v4], .int .i64 voter] w (Rets h w (fun _ _ res_ => res_ = .tuple #[.agg #[.int .i64 ((wrongsR p voter)).lo, .int .i64 ((wrongsR p voter)).hi], .int .i64 (allE p (inB voter 0 ((p.voters.length : Int) - 1)))])) := by
 refine zz (n := 75) (args := [.agg #[p_v0, p_v1, p_v2, p_v3, p_v4], .int .i64 voter]) Tryz.func17 X X X ?_
 have st0 : St h w h w [] := St.start hs
 have p_f0_b := p_f0.le
 have p_f1_b := p_f1.le
 have p_f2_b := p_f2.le
 have p_f3_b := p_f3.le
 have p_f4_b := p_f4.le
 refine W.sr<|zy st0 (cs := [p_v0, p_v1, p_v2, p_v3, p_v4]) X X X ?_
 intro b1 w2 h3 le4 hc5 st6
 refine zD st6 Tryz.zeroValue36 X X ?_
 intro b7 w8 st9
 refine v_asI X X<|Y<|zf<|zad (er := ([], [], [], [], 0)) (dsts := [16, 17, 18, 19, 20, 21, 22, 23, 24, 15, 25, 26, 6, 7]) st9 Tryz.mixed<|zq 0 [] X t_kr t_kr X X (fun hD wD τD hL hS hO  => (zM (hL.sub hS) hc5 X Tryz.isAgg32 Tryz.sizeOf32 X))<|zq 1 [] X t_kr t_kr X X (fun hD wD τD hL hS hO  => (zA X Tryz.underlying32 X Tryz.sizeOf30 X))<|zq 2 [0] X t_kr t_kr X X (fun hD wD τD hL hS hO _ _ => (zc (j := 4) (hL.sub hS) hc5 X X X Tryz.isAgg30))<|zq 3 [0] X t_kr t_kr X X (fun hD wD τD hL hS hO _ _ => (r_len (p_f4.up le4) X Tryz.underlying30))<|zq 4 [0] X t_kr t_kr X X (fun hD wD τD hL hS hO _ _ => (r_sub X X t_om))<|zq 5 [] X t_kr t_kr X X (fun hD wD τD hL hS hO  => (r_mvI X)) ?_
 refine zJ 6 (.res (fun h' res_ => Sl LInt h' res_ ([voter])) (fun _ _ _ hl f => f.up hl)) [0] rfl t_kr t_kr ?_ ?_
 ·
  intro hD wD τD hL hS hO _ _
  have st10 := St.start hS
  refine zN (L := LInt) (xs := [voter]) (cs := [.int .i64 voter]) st10 (Enc.cons (L := LInt) (vs := [.int .i64 voter]) (x := voter) (h := hD) (X) Enc.nil) X X X Tryz.underlying42 Tryz.info3 X X X t_kr ?_
  intro v11 w12 h15 le16 f13 st14
  exact zt ⟨_, _, rfl, st14, _, rfl, f13⟩
 refine zJ 7 (.det (.bool ((inB voter 0 ((p.voters.length : Int) - 1))))) [2, 0] rfl t_kr t_kr ?_ ?_
 ·
  intro hD wD τD hL hS hO _ _ gv6_0 gf6_0
  have st17 := St.start hS
  have con := (c_vote_in st17.sub (lo := 0) (hi := ((p.voters.length : Int) - 1)) gf6_0)
  rw [inAll_one] at con
  refine zi st17 X X X Tryz.call55 X con ?_
  intro r18 w19 h20 le21 st22 q23
  obtain rfl := q23
  clear con
  exact zt ⟨_, _, rfl, st22, (), rfl, trivial⟩
 refine zJ 8 (.res (fun h' res_ => ∃ gv8_0, res_ = .tuple #[gv8_0, .int .i64 (allE (p) (((inB voter 0 ((p.voters.length : Int) - 1)))))] ∧ Sl (LSl LInt) h' gv8_0 ((allL (p) (((inB voter 0 ((p.voters.length : Int) - 1))))))) (by rintro _ _ _ hl ⟨gv8_0, e_, gf8_0⟩; exact ⟨gv8_0, e_, gf8_0.up hl⟩)) [7, 0] rfl t_kr t_kr ?_ ?_
 ·
  intro hD wD τD hL hS hO _ _ _ _
  have st24 := St.start hS
  refine zi st24 X X X Tryz.call54 X (c_vote_all st24.sub (p := p) (p_f0.up (le4.trans hL)) (p_f1.up (le4.trans hL)) (p_f2.up (le4.trans hL)) (p_f3.up (le4.trans hL)) (p_f4.up (le4.trans hL)) _ (K1.up (le4.trans hL)) (K0.up (le4.trans hL))) ?_
  intro r25 w26 h27 le28 st29 q30
  obtain ⟨v31, rfl, f32⟩ := q30
  have f32_b := f32.le
  exact zt ⟨_, _, rfl, st29, _, rfl, ⟨_, rfl, f32⟩⟩
 refine zJ 9 (.res (fun h' res_ => ∃ gv9_0, res_ = .tuple #[gv9_0, .int .i64 ((allE (p) (((inB voter 0 ((p.voters.length : Int) - 1))))))] ∧ Sl (LSl LInt) h' gv9_0 (((allL (p) (((inB voter 0 ((p.voters.length : Int) - 1)))))))) (by rintro _ _ _ hl ⟨gv9_0, e_, gf9_0⟩; exact ⟨gv9_0, e_, gf9_0.up hl⟩)) [0] rfl t_kr t_kr ?_ ?_
 ·
  intro hD wD τD hL hS hO gv8_ gf8_
  obtain ⟨gv8_0, rfl, gf8_0⟩ := gf8_
  have st33 := St.start hS
  refine v_mvT X X ?_
  exact zt ⟨_, _, rfl, st33, _, rfl, ⟨_, rfl, gf8_0⟩⟩
 refine zJ 10 (.res (fun h' res_ => Sl (LSl LInt) h' res_ ((((allL (p) (((inB voter 0 ((p.voters.length : Int) - 1))))))))) (fun _ _ _ hl f => f.up hl)) [0] rfl t_kr t_kr ?_ ?_
 ·
  intro hD wD τD hL hS hO gv9_ gf9_
  obtain ⟨gv9_0, rfl, gf9_0⟩ := gf9_
  have st34 := St.start hS
  refine v_extract (v := gv9_0) X X X ?_
  exact zt ⟨_, _, rfl, st34, _, rfl, gf9_0⟩
 refine zJ 11 (.det (.int .i64 ((allE (p) (((inB voter 0 ((p.voters.length : Int) - 1)))))))) [1] rfl t_kr t_kr ?_ ?_
 ·
  intro hD wD τD hL hS hO gv9_ gf9_
  obtain ⟨gv9_0, rfl, gf9_0⟩ := gf9_
  have st35 := St.start hS
  refine v_extract (v := (.int _ _)) X X X ?_
  exact zt ⟨_, _, rfl, st35, (), rfl, trivial⟩
 refine zJ 12 (.res (fun h' res_ => Sl (LSl LInt) h' res_ (((((allL (p) (((inB voter 0 ((p.voters.length : Int) - 1)))))))))) (fun _ _ _ hl f => f.up hl)) [11, 10, 9, 8, 7, 6, 5, 4, 3, 2, 1] rfl t_kr t_kr ?_ ?_
 ·
  intro hD wD τD hL hS hO _ _ _ _ _ _ _ _ _ _ _ _ gv6_0 gf6_0 _ _ gv8_ gf8_ gv9_ gf9_ gv10_0 gf10_0
  obtain ⟨gv8_0, rfl, gf8_0⟩ := gf8_
  obtain ⟨gv9_0, rfl, gf9_0⟩ := gf9_
  have st36 := St.start hS
  refine v_assign (v := gv10_0) X X ?_
  exact zt ⟨_, _, rfl, st36, _, rfl, gf10_0⟩
 refine zq 13 [12, 11, 10, 9, 8, 7, 6, 5, 4, 3, 2, 1, 0] X t_kr t_kr X X (fun hD wD τD hL hS hO _ _ _ _ _ _ _ _ _ _ _ _ gv6_0 gf6_0 _ _ gv8_ gf8_ gv9_ gf9_ gv10_0 gf10_0 _ _ gv12_0 gf12_0 => (r_asI X))<|Drw.nil X X X X X X ⟨t_kr, X, t_kr, X, t_kr, X, X, t_kr, cx_nil⟩ ?_
 intro hE37 w38 _ le39 st40 _ _ _ _ _ _ _ _ _ _ _ _ gv6_0x41 gf6_0x41 _ _ gv8_x41 gf8_x41 gv9_x41 gf9_x41 gv10_0x41 gf10_0x41 _ _ gv12_0x41 gf12_0x41 _ _
 obtain ⟨gv8_0x41, rfl, gf8_0x41⟩ := gf8_x41
 obtain ⟨gv9_0x41, rfl, gf9_0x41⟩ := gf9_x41
 refine AllDeps.fin X<|U<|zf<|W.sr<|v_mvI X X<|v_neq X X X<|Y ?_
 refine zh rfl (fun c42 => ?_) (fun c42 => ?_)
 ·
  replace c42 := of_decide_eq_true c42
  refine W.sr<|zk X X (r_build (cs := [.int .i64 0, .int .i64 0]) t_kr)<|v_mvI X X<|zC st40 (k := 0) X X X (zp X (zp X zQ)) Tryz.sizeOf36 X X X ?_
  intro w43 st44
  refine v_asI X X<|Y<|zo<|E<|Post.retcell2 Tryz.results17 X Tryz.isAgg36 Tryz.sizeOf36 X (st44.get (k := 0) X) ?_
  refine ⟨hE37, _, rfl, st44.done, ?_⟩
  refine tup2 ?_ (zB ?_)
  have hwz : wrongsR p voter = zSpan := by simp_all [wrongsR]
  all_goals first | (rw [hwz]; rfl) | rfl | (simp_all; done)
 ·
  replace c42 := of_decide_eq_false c42
  refine zr<|U<|zf ?_
  have hz0 : allE p (inB voter 0 ((p.voters.length : Int) - 1)) = 0 := by simpa using c42
  obtain ⟨hk1, hk2, hk3, hk4⟩ := all_ok hz0
  have hk5 := List.length_pos_iff.2 hk3
  have hk6 : (allL p (inB voter 0 ((p.voters.length : Int) - 1))).length = (truthsL p).length := by rw [hk4]
  have hk7 := truths_le (check_ok hk1).2
  have hk8 := poll_len (check_ok hk1).2
  have hin : (inB voter 0 ((p.voters.length : Int) - 1)) = true := (all_ok hz0).2.1
  have hin2 : 0 ≤ voter ∧ voter < (p.voters.length : Int) := by simp only [inB, Bool.and_eq_true, decide_eq_true_eq] at hin; omega
  obtain ⟨v, hv⟩ : ∃ v, p.voters[voter.toNat]? = some v := ⟨_, List.getElem?_eq_getElem (by omega)⟩
  have hvo := poll_voter (check_ok hk1).2 (List.mem_of_getElem? hv)
  refine zg<|zk X X (r_build (cs := [.int .i64 6, .int .i64 0]) t_kr)<|zD st40 Tryz.zeroValue36 X X ?_
  intro b45 w46 st47
  refine zC st47 (k := 1) X X X (zp X (zp X zQ)) Tryz.sizeOf36 X X X ?_
  intro w48 st49
  refine Y<|zf<|W.sr<|v_move (v := gv12_0x41) X X<|v_len gf12_0x41 X Tryz.underlying91 X<|v_mvI X X<|Y<|zs ?_
  refine zG [10, 11, 12, 13, 14, 34, 35, 36, 37, 38, 39, 40, 41, 42, 43, 44, 45, 46, 47, 48, 49, 50, 51, 52, 53, 54, 55, 56, 57, 58, 59, 60, 61, 62, 63, 64, 65, 66, 67, 68, 69, 70, 71, 72, 73] (G := Nat × Span × Heap) (fun ⟨i, sp, h50⟩ => [(34, .int .i64 (i : Int))]) (fun ⟨i, sp, h50⟩ w' => Le hE37 h50 ∧ St h w h50 w' [[(b7, .cells (List.toArray [.int .i64 0, .int .i64 0]) 36)], [(b45, .cells (List.toArray [.int .i64 sp.lo, .int .i64 sp.hi]) 36)]] ∧ (i ≤ (allL p (inB voter 0 ((p.voters.length : Int) - 1))).length) ∧ (sp = spanK v ((allL p (inB voter 0 ((p.voters.length : Int) - 1))).take i))) (fun ⟨i, sp, h50⟩ => (allL p (inB voter 0 ((p.voters.length : Int) - 1))).length - i) ⟨0, ⟨6, 0⟩, hE37⟩ ⟨rfl, trivial⟩ ⟨Le.refl _, st49, zK, (by rfl)⟩ ?_
  rintro ⟨i, sp, h50⟩ _ w53 ⟨le51, st52, hi, hsp⟩
  refine W.sr<|v_lss X X X<|Y<|zf ?_
  refine zh rfl (fun c54 => ?_) (fun c54 => ?_)
  ·
   replace c54 := of_decide_eq_true c54
   refine zr<|U<|zf<|zs<|W.sr ?_
   have ht : ∃ y_, ((((((allL (p) (((inB voter 0 ((p.voters.length : Int) - 1))))))))))[i]? = some y_ := ⟨_, List.getElem?_eq_getElem (by omega)⟩
   obtain ⟨t, ht⟩ := ht
   obtain ⟨b55, o56, _, he58, hc57, hr_t⟩ := Sl.elem (gf12_0x41.up le51) ht
   obtain ⟨v59, rfl, f60⟩ := hr_t
   have f60_b := f60.le
   refine v_index_el he58 X X (hk := X) (hu := Tryz.underlying91) (hz := Tryz.sizeOf42) X<|v_load_cells1 (j := 0) st52.sub hc57 X X X Tryz.isAgg42 X<|v_assign (v := v59) X X<|Y<|zf ?_
   have htm : t ∈ truthsL p := by rw [← hk4]; exact List.mem_of_getElem? ht
   have htl := truth_len htm
   refine zg<|v_asI X X<|Y<|zf<|W.sr<|v_move (v := v59) X X<|v_len f60 X Tryz.underlying42 X<|v_mvI X X<|Y<|zs ?_
   refine zG [11, 12, 13, 14, 40, 41, 42, 43, 44, 45, 46, 47, 48, 49, 50, 51, 52, 53, 54, 55, 56, 57, 58, 59, 60, 61, 62, 63] (G := Nat × Heap) (fun ⟨k, h61⟩ => [(11, .int .i64 (wrongK v t k : Int)), (40, .int .i64 (k : Int))]) (fun ⟨k, h61⟩ w' => Le h50 h61 ∧ St h w h61 w' [[(b7, .cells (List.toArray [.int .i64 0, .int .i64 0]) 36)], [(b45, .cells (List.toArray [.int .i64 sp.lo, .int .i64 sp.hi]) 36)]] ∧ (k ≤ t.length)) (fun ⟨k, h61⟩ => t.length - k) ⟨0, h50⟩ ⟨rfl, rfl, trivial⟩ ⟨Le.refl _, st52, zK⟩ ?_
   rintro ⟨k, h61⟩ _ w64 ⟨le62, st63, hk⟩
   have hwk := wrongK_le v t k
   refine W.sr<|v_lss X X X<|Y<|zf ?_
   refine zh rfl (fun c65 => ?_) (fun c65 => ?_)
   ·
    replace c65 := of_decide_eq_true c65
    refine zr<|U<|zf<|zs<|W.sr<|v_mvI X X ?_
    have hc : ∃ y_, (t)[k]? = some y_ := ⟨_, List.getElem?_eq_getElem (by omega)⟩
    obtain ⟨c, hc⟩ := hc
    obtain ⟨b66, o67, _, he69, hc68, hr_c⟩ := Sl.elem (f60.up le62) hc
    obtain rfl := hr_c
    refine v_index_el he69 X X (hk := X) (hu := Tryz.underlying42) (hz := Tryz.sizeOf3) X<|v_load_cells1 (j := 0) st63.sub hc68 X X X Tryz.isAgg3 X<|v_asI X X<|v_asI X X<|Y<|W.sr<|v_field_addr X Tryz.underlying32 X Tryz.sizeOf30 X X<|v_load_cells1 (j := 4) st63.sub (hc5.up ((le39.trans le51).trans le62)) X X X Tryz.isAgg30 X<|v_mvI X X ?_
    obtain ⟨b70, o71, _, he73, hc72, hr_v⟩ := Sl.elem (p_f4.up (((le4.trans le39).trans le51).trans le62)) hv
    obtain ⟨v74, rfl, f75⟩ := hr_v
    have f75_b := f75.le
    refine zk rfl rfl (zE he73 rfl rfl (hk := (show _ = ((voter.toNat : Nat) : Int) by omega)) (hu := Tryz.underlying30) (hz := Tryz.sizeOf79)) ?_
    refine v_field_addr X Tryz.underlying79 X Tryz.sizeOf42 X X<|v_load_cells1 (j := 2) st63.sub hc72 X X X Tryz.isAgg42 X<|v_mvI X X ?_
    have ha : ∃ y_, (v.votes)[k]? = some y_ := ⟨_, List.getElem?_eq_getElem (by omega)⟩
    obtain ⟨a, ha⟩ := ha
    obtain ⟨b76, o77, _, he79, hc78, hr_a⟩ := Sl.elem f75 ha
    obtain rfl := hr_a
    refine v_index_el he79 X X (hk := X) (hu := Tryz.underlying42) (hz := Tryz.sizeOf3) X<|v_load_cells1 (j := 0) st63.sub hc78 X X X Tryz.isAgg3 X<|v_asI X X<|Y<|W.sr<|v_mvI X X<|v_geq X X X<|v_mvB X X ?_
    refine zx (d := 56) rfl (fun g80 => ?_) (fun g80 => ?_)
    ·
     replace g80 := of_decide_eq_true g80
     refine M X X (d := 56) X<|v_mvI X X<|M X X (d := 56) X<|v_mvI X X<|M X X (d := 56) X<|v_neq X X X<|v_pickT (v := (.bool _)) X X X<|Y ?_
     refine zh rfl (fun c81 => ?_) (fun c81 => ?_)
     ·
      replace c81 := of_decide_eq_true c81
      refine zg<|v_mvI X X ?_
      refine zk rfl rfl (r_add rfl rfl (by have q_ := wrongK_le v t k; omega)) ?_
      refine v_asI X X<|zt<|zw<|U<|zg<|v_add X X t_om X<|v_mvI X X<|Y ?_
      refine ⟨⟨k + 1, h61⟩, ⟨?_, rfl, trivial⟩, ?_, ⟨le62, st63, ?_⟩, ?_⟩
      ·exact zB (by rw [wrongK_succ]; first | (rw [wrongAt_neg ha ?_]; simp; omega) | (rw [wrongAt_at ha hc]; simp_all; done) | (rw [wrongAt_at ha hc]; simp_all; omega))
      ·exact zH
      ·first | omega | (simp; omega)
      ·show t.length - ((k + 1)) < t.length - k
       omega
     ·
      replace c81 := of_decide_eq_false c81
      refine zr<|zw<|U<|zg<|v_add X X t_om X<|v_mvI X X<|Y ?_
      refine ⟨⟨k + 1, h61⟩, ⟨?_, rfl, trivial⟩, ?_, ⟨le62, st63, ?_⟩, ?_⟩
      ·exact zB (by rw [wrongK_succ]; first | (rw [wrongAt_neg ha ?_]; simp; omega) | (rw [wrongAt_at ha hc]; simp_all; done) | (rw [wrongAt_at ha hc]; simp_all; omega))
      ·exact zH
      ·first | omega | (simp; omega)
      ·show t.length - ((k + 1)) < t.length - k
       omega
    ·
     replace g80 := of_decide_eq_false g80
     refine Z X X X X X<|Z X X X X X<|Z X X X X X<|v_pickF (v := (.bool _)) X X X<|Y ?_
     refine zh rfl (fun c82 => ?_) (fun c82 => ?_)
     ·
      cases c82
     ·
      refine zr<|zw<|U<|zg<|v_add X X t_om X<|v_mvI X X<|Y ?_
      refine ⟨⟨k + 1, h61⟩, ⟨?_, rfl, trivial⟩, ?_, ⟨le62, st63, ?_⟩, ?_⟩
      ·exact zB (by rw [wrongK_succ]; first | (rw [wrongAt_neg ha ?_]; simp; omega) | (rw [wrongAt_at ha hc]; simp_all; done) | (rw [wrongAt_at ha hc]; simp_all; omega))
      ·exact zH
      ·first | omega | (simp; omega)
      ·show t.length - ((k + 1)) < t.length - k
       omega
   ·
    replace c65 := of_decide_eq_false c65
    refine zL<|ze<|ze<|zF<|U<|zg<|v_field_addr X Tryz.underlying36 X Tryz.sizeOf3 X X<|v_load_b1 (st63.get (k := 1) X) X X Tryz.isAgg3 X<|v_mvI X X<|zk X X (r_min X X)<|v_field_addr X Tryz.underlying36 X Tryz.sizeOf3 X X<|v_load_b1 (st63.get (k := 1) X) X X Tryz.isAgg3 X<|v_mvI X X<|zk X X (r_max X X)<|zk X X (r_build (cs := [.int .i64 (minI sp.lo (wrongK v t k : Int)), .int .i64 (maxI sp.hi (wrongK v t k : Int))]) t_kr)<|zC st63 (k := 1) X X X (zp X (zp X zQ)) Tryz.sizeOf36 X X X ?_
    intro w83 st84
    refine zt<|zw<|U<|zg<|v_add X X t_om X<|v_mvI X X<|Y ?_
    refine ⟨⟨i + 1, ⟨minI sp.lo (wrongK v t k), maxI sp.hi (wrongK v t k)⟩, h61⟩, ⟨rfl, trivial⟩, ?_, ⟨(le51.trans le62), st84, ?_, ?_⟩, ?_⟩
    ·exact zH
    ·first | omega | (simp; omega)
    ·rw [spanK_snoc ht, ← hsp, wrongN, show ((List.range t.length).filter (wrongAt v t)).length = wrongK v t t.length from rfl, show t.length = k by omega]
    ·show (allL p (inB voter 0 ((p.voters.length : Int) - 1))).length - ((i + 1)) < (allL p (inB voter 0 ((p.voters.length : Int) - 1))).length - i
     omega
  ·
   replace c54 := of_decide_eq_false c54
   refine zL<|ze<|ze<|zF<|U<|W.sr<|v_load_ball (st52.get (k := 1) X) X Tryz.isAgg36 Tryz.sizeOf36 X X<|zC st52 (k := 0) X X X (zp X (zp X zQ)) Tryz.sizeOf36 X X X ?_
   intro w85 st86
   refine v_asI X X<|Y<|zo<|Post.retcell2 Tryz.results17 X Tryz.isAgg36 Tryz.sizeOf36 X (st86.get (k := 0) X) ?_
   refine ⟨h50, _, rfl, st86.done, ?_⟩
   refine tup2 ?_ (zB ?_)
   all_goals first | exact hz0.symm | (rw [wrongsR, if_pos hz0, hv, hsp, List.take_of_length_le (by omega), hk4]; rfl)
set_option maxRecDepth 4000 in
theorem c_vote_Tally {h : Heap} {w : World} (hs : Sub h w) {p : Poll} {p_v0 : Value} (p_f0 : Sl LChapter h p_v0 p.text.chapters) {p_v1 : Value} (p_f1 : Sl LRule h p_v1 p.lexicon.rules) {p_v2 : Value} (p_f2 : Sl LDecision h p_v2 p.lexicon.decisions) {p_v3 : Value} (p_f3 : Sl LQuestion h p_v3 p.questions) {p_v4 : Value} (p_f4 : Sl LVoter h p_v4 p.voters) (question : Int) (K1 : Cells h 1 0 Tryz.glob1) (K0 : Cells h 0 0 Tryz.glob0) : Calls Tryz.prog 19 #[.agg #[p_v0, p_v1, p_v2, p_v3, p_v4], .int .i64 question] w (Rets h w (fun h' _ res_ => ∃ u0, res_ = .tuple #[u0, .int .i64 (tallyE p question)] ∧ Sl LInt h' u0 ((tallyR p question)))) := by
 refine zz (n := 54) (args := [.agg #[p_v0, p_v1, p_v2, p_v3, p_v4], .int .i64 question]) Tryz.func19 X X X ?_
 have st0 : St h w h w [] := St.start hs
 have p_f0_b := p_f0.le
 have p_f1_b := p_f1.le
 have p_f2_b := p_f2.le
 have p_f3_b := p_f3.le
 have p_f4_b := p_f4.le
 refine W.sr<|zy st0 (cs := [p_v0, p_v1, p_v2, p_v3, p_v4]) X X X ?_
 intro b1 w2 h3 le4 hc5 st6
 refine v_asL X X<|v_asI X X<|Y<|zf<|W.sr<|v_load_call st6.sub hc5 X Tryz.isAgg32 Tryz.sizeOf32 X X<|zi st6 X X X Tryz.call40 X (c_vote_Check st6.sub (p := p) (p_f0.up le4) (p_f1.up le4) (p_f2.up le4) (p_f3.up le4) (p_f4.up le4) (K1.up le4) (K0.up le4)) ?_
 intro r7 w8 h9 le10 st11 q12
 obtain rfl := q12
 refine v_asI X X<|Y<|W.sr<|v_mvI X X<|v_neq X X X<|Y ?_
 refine zh rfl (fun c13 => ?_) (fun c13 => ?_)
 ·
  replace c13 := of_decide_eq_true c13
  refine W.sr<|v_mvI X X<|v_asL X X<|v_asI X X<|Y<|zo<|E<|zV Tryz.results19 ?_
  refine ⟨h9, _, rfl, st11.done, ?_⟩
  refine ⟨_, tup2 rfl (zB ?_), Sl.to (Sl.nil _ _) ?_⟩
  all_goals first | (simp_all [tallyR, tallyE]; done) | (rw [tallyR, if_pos hte, hq, List.take_of_length_le (by omega)]; rfl)
 ·
  replace c13 := of_decide_eq_false c13
  refine zr<|U<|zf<|W.sr<|v_field_addr X Tryz.underlying32 X Tryz.sizeOf29 X X<|v_load_cells1 (j := 3) st11.sub (hc5.up le10) X X X Tryz.isAgg29 X<|v_len (p_f3.up (le4.trans le10)) X Tryz.underlying29 X<|v_sub X X t_om X<|v_mvI X X<|zN (L := LInt) (xs := [question]) (cs := [.int .i64 question]) st11 (Enc.cons (L := LInt) (vs := [.int .i64 question]) (x := question) (h := h9) (X) Enc.nil) X X X Tryz.underlying42 Tryz.info3 X X X t_kr ?_
  intro v14 w15 h18 le19 f16 st17
  have con := (c_vote_in st17.sub (lo := 0) (hi := ((p.questions.length : Int) - 1)) f16)
  rw [inAll_one] at con
  refine zi st17 X X X Tryz.call55 X con ?_
  intro r20 w21 h22 le23 st24 q25
  obtain rfl := q25
  clear con
  refine v_not X X<|Y ?_
  refine zh rfl (fun c26 => ?_) (fun c26 => ?_)
  ·
   refine W.sr<|v_asL X X<|v_asI X X<|Y<|zo<|E<|zV Tryz.results19 ?_
   refine ⟨h22, _, rfl, st24.done, ?_⟩
   refine ⟨_, tup2 rfl (zB ?_), Sl.to (Sl.nil _ _) ?_⟩
   all_goals first | (simp_all [tallyR, tallyE]; done) | (rw [tallyR, if_pos hte, hq, List.take_of_length_le (by omega)]; rfl)
  ·
   refine zr<|U<|zf ?_
   have hk1 : checkP p = 0 := by simpa using c13
   have hin : inB question 0 ((p.questions.length : Int) - 1) = true := by simpa using c26
   have hin2 : 0 ≤ question ∧ question < (p.questions.length : Int) := by simp only [inB, Bool.and_eq_true, decide_eq_true_eq] at hin; omega
   obtain ⟨q, hq⟩ : ∃ q, p.questions[question.toNat]? = some q := ⟨_, List.getElem?_eq_getElem (by omega)⟩
   have hpb := (check_ok hk1).2
   have hq0 := poll_quest hpb hq
   have hpl := poll_len hpb
   have hte : tallyE p question = 0 := by rw [tallyE, if_neg (by simp [hk1]), if_pos hin]
   refine zg<|v_field_addr X Tryz.underlying32 X Tryz.sizeOf29 X X<|v_load_cells1 (j := 3) st24.sub (hc5.up ((le10.trans le19).trans le23)) X X X Tryz.isAgg29 X<|v_mvI X X ?_
   obtain ⟨b27, o28, _, he30, hc29, hr_q⟩ := Sl.elem (p_f3.up (((le4.trans le10).trans le19).trans le23)) hq
   obtain ⟨v31, rfl, f32⟩ := hr_q
   have f32_b := f32.le
   refine zk rfl rfl (zE he30 rfl rfl (hk := (show _ = ((question.toNat : Nat) : Int) by omega)) (hu := Tryz.underlying29) (hz := Tryz.sizeOf84)) ?_
   refine v_field_addr X Tryz.underlying84 X Tryz.sizeOf82 X X<|v_load_cells1 (j := 3) st24.sub hc29 X X X Tryz.isAgg82 X<|v_len f32 X Tryz.underlying82 X ?_
   refine OpsL.makeInts (m := q.heads.length) st24 rfl Tryz.underlying42 Tryz.info3 rfl rfl rfl rfl (by show 8 * (q.heads.length) ≤ 281474976710656; omega) (by omega) ?_
   intro v33 o34 w35 f36 st37
   refine v_assign (v := v33) X X<|Y<|zf<|W.sr<|v_field_addr X Tryz.underlying32 X Tryz.sizeOf30 X X<|v_load_cells1 (j := 4) st37.sub (hc5.up ((le10.trans le19).trans le23)) X X X Tryz.isAgg30 X<|v_len (p_f4.up (((le4.trans le10).trans le19).trans le23)) X Tryz.underlying30 X<|v_mvI X X<|Y<|zs ?_
   refine zG [9, 10, 35, 36, 37, 38, 39, 40, 41, 42, 43, 44, 45, 46, 47, 48, 49, 50, 51, 52] (G := Nat × List (Nat × Obj) × Heap) (fun ⟨i, o_7, h38⟩ => [(35, .int .i64 (i : Int))]) (fun ⟨i, o_7, h38⟩ w' => Le h22 h38 ∧ St h w h38 w' [o_7] ∧ (OSl LInt 3 h38 v33 ((tallyL (p.voters.take i) question.toNat q.heads.length)) o_7) ∧ (i ≤ p.voters.length)) (fun ⟨i, o_7, h38⟩ => p.voters.length - i) ⟨0, o34, h22⟩ ⟨rfl, trivial⟩ ⟨Le.refl _, st37, (OSl.to f36 (by exact tally_zero _ _)), zK⟩ ?_
   rintro ⟨i, o_7, h38⟩ _ w41 ⟨le39, st40, hO_7, hi⟩
   refine W.sr<|v_lss X X X<|Y<|zf ?_
   refine zh rfl (fun c42 => ?_) (fun c42 => ?_)
   ·
    replace c42 := of_decide_eq_true c42
    refine zr<|U<|zf<|zs<|W.sr ?_
    have hv : ∃ y_, (p.voters)[i]? = some y_ := ⟨_, List.getElem?_eq_getElem (by omega)⟩
    obtain ⟨v, hv⟩ := hv
    obtain ⟨b43, o44, _, he46, hc45, hr_v⟩ := Sl.elem (p_f4.up ((((le4.trans le10).trans le19).trans le23).trans le39)) hv
    obtain ⟨v47, rfl, f48⟩ := hr_v
    have f48_b := f48.le
    refine v_index_el he46 X X (hk := X) (hu := Tryz.underlying30) (hz := Tryz.sizeOf79) X<|v_load_call st40.sub hc45 X Tryz.isAgg79 Tryz.sizeOf79 X X<|zD st40 Tryz.zeroValue79 X X ?_
    intro b49 w50 st51
    refine zC st51 (k := 1) X X X (zp X (zp X (zp f48.one zQ))) Tryz.sizeOf79 X X X ?_
    intro w52 st53
    obtain ⟨h54, le55, hb56, st58⟩ := st53.freeze (k := 1) rfl
    have hc57 := Cells.of hb56
    refine Y<|W.sr<|v_field_addr X Tryz.underlying79 X Tryz.sizeOf42 X X<|v_load_cells1 (j := 2) st58.sub hc57 X X X Tryz.isAgg42 X<|v_mvI X X ?_
    have ha : ∃ y_, (v.votes)[question.toNat]? = some y_ := ⟨_, List.getElem?_eq_getElem (by have q1 := (poll_voter hpb (List.mem_of_getElem? hv)).2.2.1; omega)⟩
    obtain ⟨a, ha⟩ := ha
    obtain ⟨b59, o60, _, he62, hc61, hr_a⟩ := Sl.elem (f48.up le55) ha
    obtain rfl := hr_a
    refine zk rfl rfl (zE he62 rfl rfl (hk := (show _ = ((question.toNat : Nat) : Int) by omega)) (hu := Tryz.underlying42) (hz := Tryz.sizeOf3)) ?_
    refine v_load_cells1 (j := 0) st58.sub hc61 X X X Tryz.isAgg3 X<|v_asI X X<|Y<|W.sr<|v_mvI X X<|v_geq X X X<|Y ?_
    refine zh rfl (fun c63 => ?_) (fun c63 => ?_)
    ·
     replace c63 := of_decide_eq_true c63
     have ha0 := c63
     have hvk := votes_in (poll_voter hpb (List.mem_of_getElem? hv)).2.2.2 ha hq
     have htl := tally_len (p.voters.take i) question.toNat q.heads.length
     refine zg<|v_move (v := v33) X X<|v_mvI X X ?_
     have hx : ∃ y_, ((tallyL (p.voters.take i) question.toNat q.heads.length))[a.toNat]? = some y_ := ⟨_, List.getElem?_eq_getElem (by omega)⟩
     obtain ⟨x, hx⟩ := hx
     obtain ⟨b64, o65, cur66, _, e69, he67, hr_x, hc68⟩ := OSl.elem (hO_7.up le55) hx
     subst e69
     obtain rfl := hr_x
     refine zk rfl rfl (zE he67 rfl rfl (hk := (show _ = ((a.toNat : Nat) : Int) by omega)) (hu := Tryz.underlying42) (hz := Tryz.sizeOf3)) ?_
     refine zk X X (r_load_cur1 (j := 0) (st58.get (k := 0) X) hc68 X X X Tryz.isAgg3) ?_
     refine zk rfl rfl (r_add rfl rfl (by have q1 := tally_small hx; rw [List.length_take] at q1; omega)) ?_
     obtain ⟨b70, o71, cur72, _, e75, he73, hr_x, hc74⟩ := OSl.elem (hO_7.up le55) hx
     obtain ⟨hb76, hc77⟩ : b64 = b70 ∧ cur66 = cur72 := by cases e75; exact ⟨rfl, rfl⟩
     subst hb76
     subst hc77
     obtain rfl := hr_x
     refine zk rfl rfl (zE he73 rfl rfl (hk := (show _ = ((a.toNat : Nat) : Int) by omega)) (hu := Tryz.underlying42) (hz := Tryz.sizeOf3)) ?_
     refine OpsL.storeEl1 (k := 0) st58 (hO_7.up le55) rfl (by omega) he73 rfl rfl (rfl) Tryz.sizeOf3 ?_
     intro o78 w79 _ e80 f81 st82
     subst e80
     refine zt<|zw<|U<|zg<|v_add X X t_om X<|v_mvI X X<|Y ?_
     refine ⟨⟨i + 1, o78, h54⟩, ⟨rfl, trivial⟩, ?_, ⟨(le39.trans le55), st82.take 1, ?_, ?_⟩, ?_⟩
     ·exact zH
     ·refine OSl.to f81 ?_
      exact tally_set hv ha (by omega) hx
     ·first | omega | (simp; omega)
     ·show p.voters.length - ((i + 1)) < p.voters.length - i
      omega
    ·
     replace c63 := of_decide_eq_false c63
     refine zr<|zw<|U<|zg<|v_add X X t_om X<|v_mvI X X<|Y ?_
     refine ⟨⟨i + 1, o_7, h54⟩, ⟨rfl, trivial⟩, ?_, ⟨(le39.trans le55), st58.take 1, ?_, ?_⟩, ?_⟩
     ·exact zH
     ·refine OSl.to (hO_7.up le55) ?_
      exact (tally_skip hv ha (by have q_ := c63; omega)).symm
     ·first | omega | (simp; omega)
     ·show p.voters.length - ((i + 1)) < p.voters.length - i
      omega
   ·
    replace c42 := of_decide_eq_false c42
    refine zL<|ze<|ze<|zF<|U<|W.sr<|v_move (v := v33) X X<|v_assign (v := v33) X X<|v_asI X X<|Y<|zo<|zV Tryz.results19 ?_
    obtain ⟨h83, le84, f85, st86⟩ := OSl.freeze (k := 0) st40 hO_7 rfl (by rw [tally_len]; omega)
    refine ⟨h83, _, rfl, st86.done, ?_⟩
    refine ⟨_, tup2 rfl (zB ?_), Sl.to f85 ?_⟩
    all_goals first | (simp_all [tallyR, tallyE]; done) | (rw [tallyR, if_pos hte, hq, List.take_of_length_le (by omega)]; rfl)
end Go.Pk

namespace Go.Pk
open Go Go.RowKit Go.Proofs
theorem gives_ask {h : Heap} {p_b : Nat} {p : Poll} {p_v0 : Value} (p_f0 : Sl LChapter h p_v0 p.text.chapters) {p_v1 : Value} (p_f1 : Sl LRule h p_v1 p.lexicon.rules) {p_v2 : Value} (p_f2 : Sl LDecision h p_v2 p.lexicon.decisions) {p_v3 : Value} (p_f3 : Sl LQuestion h p_v3 p.questions) {p_v4 : Value} (p_f4 : Sl LVoter h p_v4 p.voters) (p_c : Cells h p_b 0 [p_v0, p_v1, p_v2, p_v3, p_v4]) {ls_b : Nat} {ls_v : Value} {ls : (List (List Int))} (ls_f : Sl (LSl LInt) h ls_v ls) (ls_c : Cells h ls_b 0 [ls_v]) (hp : pollB p = true) (hl : ∀ t ∈ ls, t ∈ truthsL p) (hn : ls.length ≤ 1000) : GivesA Tryz.prog 60 [.pointer (some ⟨p_b, 0, none⟩), .pointer (some ⟨ls_b, 0, none⟩)] (fun (_ : List (List Int)) h_ u_ (x_ : List Int) => Sl LInt h_ u_ x_ ∧ x_.length ≤ 6) (fun xs => xs = askC ls p.questions.length (2 ^ p.questions.length)) h := by
 intro h0 w0 h1 l1 l J Jx hm hxm hY h2 w rest l2 hJ st
 exact c_vote_Ask_1 (p := p) (p_f0.up (l1.trans l2)) (p_f1.up (l1.trans l2)) (p_f2.up (l1.trans l2)) (p_f3.up (l1.trans l2)) (p_f4.up (l1.trans l2)) (p_c.up (l1.trans l2)) (ls_f.up (l1.trans l2)) (ls_c.up (l1.trans l2)) hm hxm hJ (fun _ _ _ _ _ _ _ l3 a b c => hY _ _ _ _ _ _ _ (l2.trans l3) a b c) hp hl hn st
theorem gives_next {h : Heap} {p_b : Nat} {p : Poll} {p_v0 : Value} (p_f0 : Sl LChapter h p_v0 p.text.chapters) {p_v1 : Value} (p_f1 : Sl LRule h p_v1 p.lexicon.rules) {p_v2 : Value} (p_f2 : Sl LDecision h p_v2 p.lexicon.decisions) {p_v3 : Value} (p_f3 : Sl LQuestion h p_v3 p.questions) {p_v4 : Value} (p_f4 : Sl LVoter h p_v4 p.voters) (p_c : Cells h p_b 0 [p_v0, p_v1, p_v2, p_v3, p_v4]) {ls_b : Nat} {ls_v : Value} {ls : (List (List Int))} (ls_f : Sl (LSl LInt) h ls_v ls) (ls_c : Cells h ls_b 0 [ls_v]) (hp : pollB p = true) (hl : ∀ t ∈ ls, t ∈ truthsL p) (hn : ls.length ≤ 1000) : GivesA Tryz.prog 69 [.pointer (some ⟨p_b, 0, none⟩), .pointer (some ⟨ls_b, 0, none⟩)] (fun (_ : List (Int)) h_ u_ (x_ : Int) => u_ = .int .i64 x_ ∧ (0 ≤ x_ ∧ x_ < (p.questions.length : Int))) (fun xs => xs = nextC ls p.questions.length) h := by
 intro h0 w0 h1 l1 l J Jx hm hxm hY h2 w rest l2 hJ st
 exact c_vote_Next_1 (p := p) (p_f0.up (l1.trans l2)) (p_f1.up (l1.trans l2)) (p_f2.up (l1.trans l2)) (p_f3.up (l1.trans l2)) (p_f4.up (l1.trans l2)) (p_c.up (l1.trans l2)) (ls_f.up (l1.trans l2)) (ls_c.up (l1.trans l2)) hm hxm hJ (fun _ _ _ _ _ _ _ l3 a b c => hY _ _ _ _ _ _ _ (l2.trans l3) a b c) hp hl hn st
set_option maxRecDepth 4000 in
theorem c_vote_Ask {h : Heap} {w : World} (hs : Sub h w) {p : Poll} {p_v0 : Value} (p_f0 : Sl LChapter h p_v0 p.text.chapters) {p_v1 : Value} (p_f1 : Sl LRule h p_v1 p.lexicon.rules) {p_v2 : Value} (p_f2 : Sl LDecision h p_v2 p.lexicon.decisions) {p_v3 : Value} (p_f3 : Sl LQuestion h p_v3 p.questions) {p_v4 : Value} (p_f4 : Sl LVoter h p_v4 p.voters) (K1 : Cells h 1 0 Tryz.glob1) (K0 : Cells h 0 0 Tryz.glob0) : Calls Tryz.prog 22 #[.agg #[p_v0, p_v1, p_v2, p_v3, p_v4]] w (Rets h w (fun h' _ res_ => ∃ u0, res_ = .tuple #[u0, .int .i64 (allE p true)] ∧ Sl LInt h' u0 ((askR7 p)))) := by
 refine zz (n := 18) (args := [.agg #[p_v0, p_v1, p_v2, p_v3, p_v4]]) Tryz.func22 X X X ?_
 have st0 : St h w h w [] := St.start hs
 have p_f0_b := p_f0.le
 have p_f1_b := p_f1.le
 have p_f2_b := p_f2.le
 have p_f3_b := p_f3.le
 have p_f4_b := p_f4.le
 refine W.sr<|zy st0 (cs := [p_v0, p_v1, p_v2, p_v3, p_v4]) X X X ?_
 intro b1 w2 h3 le4 hc5 st6
 refine v_asL X X<|v_asI X X<|Y<|W.sr<|v_load_call st6.sub hc5 X Tryz.isAgg32 Tryz.sizeOf32 X X<|zi st6 X X X Tryz.call54 X (c_vote_all st6.sub (p := p) (p_f0.up le4) (p_f1.up le4) (p_f2.up le4) (p_f3.up le4) (p_f4.up le4) _ (K1.up le4) (K0.up le4)) ?_
 intro r7 w8 h9 le10 st11 q12
 obtain ⟨v13, rfl, f14⟩ := q12
 have f14_b := f14.le
 refine v_mvT X X<|v_extract (v := v13) X X X<|v_extract (v := (.int _ _)) X X X<|zD st11 Tryz.zeroValue91 X X ?_
 intro b15 w16 st17
 refine zO st17 (k := 0) X X (v := v13) X f14.one Tryz.sizeOf91 X X X ?_
 intro w18 st19
 obtain ⟨h20, le21, hb22, st24⟩ := st19.freeze (k := 0) rfl
 have hc23 := Cells.of hb22
 refine v_asI X X<|Y<|zf<|W.sr<|v_mvI X X<|v_neq X X X<|Y ?_
 refine zh rfl (fun c25 => ?_) (fun c25 => ?_)
 ·
  replace c25 := of_decide_eq_true c25
  refine W.sr<|v_mvI X X<|v_asL X X<|v_asI X X<|Y<|zo<|E<|zV Tryz.results22 ?_
  refine ⟨h20, _, rfl, st24.done, ?_⟩
  refine ⟨_, tup2 rfl (zB ?_), Sl.to (Sl.nil _ _) ?_⟩
  all_goals first | exact hz0.symm | (rw [askR7, if_pos hz0, ← askK_first, hk4]; rfl) | (simp_all [askR7]; done)
 ·
  replace c25 := of_decide_eq_false c25
  refine zr<|U<|zf ?_
  have hz0 : allE p true = 0 := by simpa using c25
  obtain ⟨hk1, hk2, hk3, hk4⟩ := all_ok hz0
  have hk5 := List.length_pos_iff.2 hk3
  have hk6 : (allL p true).length = (truthsL p).length := by rw [hk4]
  have hk7 := truths_le (check_ok hk1).2
  have hk8 := poll_len (check_ok hk1).2
  have hpb := (check_ok hk1).2
  have hal : ∀ t ∈ allL p true, t ∈ truthsL p := by rw [hk4]; exact fun _ q_ => q_
  refine zg<|v_make_func X X X<|zk X X (r_asF X)<|Y<|W.sr<|v_mvF X X ?_
  refine zi st24 rfl rfl rfl Tryz.call63 rfl (c_vote_first_Lint st24.sub (lt := beforeL) (B := fun x => x.length ≤ 6) Tryz.call60 (gives_ask (p := p) (p_f0.up ((le4.trans le10).trans le21)) (p_f1.up ((le4.trans le10).trans le21)) (p_f2.up ((le4.trans le10).trans le21)) (p_f3.up ((le4.trans le10).trans le21)) (p_f4.up ((le4.trans le10).trans le21)) (hc5.up (le10.trans le21)) (f14.up le21) hc23 hpb (by rw [hk4]; exact fun _ q_ => q_) (by omega)) Tryz.call64 (fun _ _ _ _ q_ => q_) (fun _ _ _ _ _ _ _ s_ f1_ f2_ _ _ => c_vote_Ask_2 s_ f1_ f2_)) ?_
  intro r26 w27 h28 le29 st30 q31
  obtain ⟨v32, e34, f33⟩ := q31
  rw [← e34] at f33
  have f33_b := f33.le
  refine v_assign (v := r26) X X<|v_asI X X<|Y<|zo<|zV Tryz.results22 ?_
  refine ⟨h28, _, rfl, st30.done, ?_⟩
  refine ⟨_, tup2 rfl (zB ?_), Sl.to f33 ?_⟩
  all_goals first | exact hz0.symm | (rw [askR7, if_pos hz0, ← askK_first, hk4]; rfl) | (simp_all [askR7]; done)
set_option maxRecDepth 4000 in
theorem c_vote_Next {h : Heap} {w : World} (hs : Sub h w) {p : Poll} {p_v0 : Value} (p_f0 : Sl LChapter h p_v0 p.text.chapters) {p_v1 : Value} (p_f1 : Sl LRule h p_v1 p.lexicon.rules) {p_v2 : Value} (p_f2 : Sl LDecision h p_v2 p.lexicon.decisions) {p_v3 : Value} (p_f3 : Sl LQuestion h p_v3 p.questions) {p_v4 : Value} (p_f4 : Sl LVoter h p_v4 p.voters) (K1 : Cells h 1 0 Tryz.glob1) (K0 : Cells h 0 0 Tryz.glob0) : Calls Tryz.prog 24 #[.agg #[p_v0, p_v1, p_v2, p_v3, p_v4]] w (Rets h w (fun _ _ res_ => res_ = .tuple #[.int .i64 ((nextR p)), .int .i64 (nextE p)])) := by
 refine zz (n := 22) (args := [.agg #[p_v0, p_v1, p_v2, p_v3, p_v4]]) Tryz.func24 X X X ?_
 have st0 : St h w h w [] := St.start hs
 have p_f0_b := p_f0.le
 have p_f1_b := p_f1.le
 have p_f2_b := p_f2.le
 have p_f3_b := p_f3.le
 have p_f4_b := p_f4.le
 refine W.sr<|zy st0 (cs := [p_v0, p_v1, p_v2, p_v3, p_v4]) X X X ?_
 intro b1 w2 h3 le4 hc5 st6
 refine v_asI X X<|v_asI X X<|Y<|W.sr<|v_load_call st6.sub hc5 X Tryz.isAgg32 Tryz.sizeOf32 X X<|zi st6 X X X Tryz.call54 X (c_vote_all st6.sub (p := p) (p_f0.up le4) (p_f1.up le4) (p_f2.up le4) (p_f3.up le4) (p_f4.up le4) _ (K1.up le4) (K0.up le4)) ?_
 intro r7 w8 h9 le10 st11 q12
 obtain ⟨v13, rfl, f14⟩ := q12
 have f14_b := f14.le
 refine v_mvT X X<|v_extract (v := v13) X X X<|v_extract (v := (.int _ _)) X X X<|zD st11 Tryz.zeroValue91 X X ?_
 intro b15 w16 st17
 refine zO st17 (k := 0) X X (v := v13) X f14.one Tryz.sizeOf91 X X X ?_
 intro w18 st19
 obtain ⟨h20, le21, hb22, st24⟩ := st19.freeze (k := 0) rfl
 have hc23 := Cells.of hb22
 refine v_asI X X<|Y<|zf<|W.sr<|v_mvI X X<|v_neq X X X<|Y ?_
 refine zh rfl (fun c25 => ?_) (fun c25 => ?_)
 ·
  replace c25 := of_decide_eq_true c25
  refine W.sr<|v_mvI X X<|v_asI X X<|v_asI X X<|Y<|zo<|E<|zV Tryz.results24 ?_
  refine ⟨h20, _, rfl, st24.done, ?_⟩
  refine tup2 (zB ?_) (zB ?_)
  all_goals first | (simp_all [nextR, nextE]; done) | (rw [hk4] at *; simp_all [nextR, nextE]; done)
 ·
  replace c25 := of_decide_eq_false c25
  refine zr<|U<|zf<|zf ?_
  have hz0 : allE p true = 0 := by simpa using c25
  obtain ⟨hk1, hk2, hk3, hk4⟩ := all_ok hz0
  have hk5 := List.length_pos_iff.2 hk3
  have hk6 : (allL p true).length = (truthsL p).length := by rw [hk4]
  have hk7 := truths_le (check_ok hk1).2
  have hk8 := poll_len (check_ok hk1).2
  have hpb := (check_ok hk1).2
  have hal : ∀ t ∈ allL p true, t ∈ truthsL p := by rw [hk4]; exact fun _ q_ => q_
  refine zg<|v_load_cells1 (j := 0) st24.sub hc23 X X X Tryz.isAgg91 X<|v_len (f14.up le21) X Tryz.underlying91 X<|v_eql X X X<|Y ?_
  refine zh rfl (fun c26 => ?_) (fun c26 => ?_)
  ·
   replace c26 := of_decide_eq_true c26
   refine W.sr<|v_asI X X<|v_asI X X<|Y<|zo<|E<|zV Tryz.results24 ?_
   have q_ : (truthsL p).length = 1 := by have q2_ := c26; rw [hk4] at q2_; omega
   refine ⟨h20, _, rfl, st24.done, ?_⟩
   refine tup2 (zB ?_) (zB ?_)
   all_goals simp [nextR, nextE, hz0, q_]
  ·
   replace c26 := of_decide_eq_false c26
   refine zr<|U<|zf ?_
   have hl1 : 1 < (truthsL p).length := by have q_ := c26; omega
   have hne : nextE p = 0 := by rw [nextE, if_neg (by simp [hz0]), if_neg (by omega)]
   refine zg<|v_make_func X X X<|zk X X (r_asF X)<|Y<|W.sr<|v_mvF X X<|v_make_func X X X ?_
   refine zi st24 rfl rfl rfl Tryz.call71 rfl (c_vote_first_int st24.sub (lt := worseB (allL p true)) (B := fun x => 0 ≤ x ∧ x < (p.questions.length : Int)) (caps2 := [.pointer (some ⟨b15, 0, none⟩)]) Tryz.call69 (gives_next (p := p) (p_f0.up ((le4.trans le10).trans le21)) (p_f1.up ((le4.trans le10).trans le21)) (p_f2.up ((le4.trans le10).trans le21)) (p_f3.up ((le4.trans le10).trans le21)) (p_f4.up ((le4.trans le10).trans le21)) (hc5.up (le10.trans le21)) (f14.up le21) hc23 hpb hal (by omega)) Tryz.call72 (fun _ _ _ _ q_ => q_) (fun h_ w_ x_ y_ l_ s_ bx_ by_ => c_vote_Next_2 s_ x_ y_ ((f14.up le21).up l_) (hc23.up l_) bx_.1 by_.1 (truths_three hpb hal bx_.1 bx_.2) (truths_three hpb hal by_.1 by_.2) (by omega))) ?_
   intro r27 w28 h29 le30 st31 q32
   obtain rfl := q32
   refine v_asI X X<|v_asI X X<|Y<|zo<|zV Tryz.results24 ?_
   refine ⟨h29, _, rfl, st31.done, ?_⟩
   refine tup2 (zB ?_) (zB ?_)
   all_goals first | exact hne.symm | (rw [nextR, if_pos hne, hk4]; exact next_ok hl1 (next_pos hl1))
end Go.Pk

namespace Go.Pk
open Go Go.RowKit Go.Proofs
set_option maxRecDepth 4000 in
set_option maxHeartbeats 4000000 in
theorem c_postillaw07_VoteTells {h : Heap} {w : World} (hs : Sub h w) {p : Poll} {p_v0 : Value} (p_f0 : Sl LChapter h p_v0 p.text.chapters) {p_v1 : Value} (p_f1 : Sl LRule h p_v1 p.lexicon.rules) {p_v2 : Value} (p_f2 : Sl LDecision h p_v2 p.lexicon.decisions) {p_v3 : Value} (p_f3 : Sl LQuestion h p_v3 p.questions) {p_v4 : Value} (p_f4 : Sl LVoter h p_v4 p.voters) (voter : Int) (question : Int) (K1 : Cells h 1 0 Tryz.glob1) (K0 : Cells h 0 0 Tryz.glob0) : Calls Tryz.prog 3 #[.agg #[p_v0, p_v1, p_v2, p_v3, p_v4], .int .i64 voter, .int .i64 question] w (Rets h w (fun _ _ res_ => res_ = .bool (true))) := by
 refine zz (n := 110) (args := [.agg #[p_v0, p_v1, p_v2, p_v3, p_v4], .int .i64 voter, .int .i64 question]) Tryz.func3 X X X ?_
 have st0 : St h w h w [] := St.start hs
 have p_f0_b := p_f0.le
 have p_f1_b := p_f1.le
 have p_f2_b := p_f2.le
 have p_f3_b := p_f3.le
 have p_f4_b := p_f4.le
 refine W.sr<|zy st0 (cs := [p_v0, p_v1, p_v2, p_v3, p_v4]) X X X ?_
 intro b1 w2 h3 le4 hc5 st6
 refine v_asB X X<|Y<|zf<|W.sr<|v_load_call st6.sub hc5 X Tryz.isAgg32 Tryz.sizeOf32 X X<|zi st6 X X X Tryz.call15 X (c_postilref07_Great st6.sub (p := p) (p_f0.up le4) (p_f1.up le4) (p_f2.up le4) (p_f3.up le4) (p_f4.up le4)) ?_
 intro r7 w8 h9 le10 st11 q12
 obtain rfl := q12
 refine Y ?_
 refine zh rfl (fun c13 => ?_) (fun c13 => ?_)
 ·
  refine W.sr<|v_asB X X<|Y<|zo<|E<|za Tryz.results3 ?_
  refine ⟨h9, _, rfl, st11.done, ?_⟩
  refine zj ?_
  first | rfl | (simp_all; done)
 ·
  refine zr<|U<|W.sr<|v_load_call st11.sub (hc5.up le10) X Tryz.isAgg32 Tryz.sizeOf32 X X ?_
  refine zi st11 rfl rfl rfl Tryz.call16 rfl (c_postilref07_Twin st11.sub (p := p) (p_f0.up (le4.trans le10)) (p_f1.up (le4.trans le10)) (p_f2.up (le4.trans le10)) (p_f3.up (le4.trans le10)) (p_f4.up (le4.trans le10)) (by simpa using c13)) ?_
  intro r14 w15 h16 le17 st18 q19
  obtain ⟨v20, v22, v24, v26, v28, rfl, f21, f23, f25, f27, f29⟩ := q19
  have f21_b := f21.le
  have f23_b := f23.le
  have f25_b := f25.le
  have f27_b := f27.le
  have f29_b := f29.le
  refine zD st18 Tryz.zeroValue32 X X ?_
  intro b30 w31 st32
  refine zC st32 (k := 0) X X X (zp f21.one (zp f23.one (zp f25.one (zp f27.one (zp f29.one zQ))))) Tryz.sizeOf32 X X X ?_
  intro w33 st34
  obtain ⟨h35, le36, hb37, st39⟩ := st34.freeze (k := 0) rfl
  have hc38 := Cells.of hb37
  refine Y<|W.sr<|v_load_call st39.sub hc38 X Tryz.isAgg32 Tryz.sizeOf32 X X<|v_mvI X X<|zi st39 X X X Tryz.call17 X (c_vote_Wrongs st39.sub (p := (p)) (f21.up le36) (f23.up le36) (f25.up le36) (f27.up le36) (f29.up le36) _ (K1.up (((le4.trans le10).trans le17).trans le36)) (K0.up (((le4.trans le10).trans le17).trans le36))) ?_
  intro r40 w41 h42 le43 st44 q45
  obtain rfl := q45
  refine v_mvT X X<|v_extract (v := (.agg (List.toArray _))) X X X<|v_extract (v := (.int _ _)) X X X<|zD st44 Tryz.zeroValue36 X X ?_
  intro b46 w47 st48
  refine zC st48 (k := 1) X X X (zp X (zp X zQ)) Tryz.sizeOf36 X X X ?_
  intro w49 st50
  obtain ⟨h51, le52, hb53, st55⟩ := st50.freeze (k := 1) rfl
  have hc54 := Cells.of hb53
  refine v_asI X X<|Y<|W.sr<|v_load_call st55.sub (hc5.up ((((le10.trans le17).trans le36).trans le43).trans le52)) X Tryz.isAgg32 Tryz.sizeOf32 X X<|v_mvI X X<|zi st55 X X X Tryz.call18 X (c_postilref07_Wrongs st55.sub (p := p) (p_f0.up (((((le4.trans le10).trans le17).trans le36).trans le43).trans le52)) (p_f1.up (((((le4.trans le10).trans le17).trans le36).trans le43).trans le52)) (p_f2.up (((((le4.trans le10).trans le17).trans le36).trans le43).trans le52)) (p_f3.up (((((le4.trans le10).trans le17).trans le36).trans le43).trans le52)) (p_f4.up (((((le4.trans le10).trans le17).trans le36).trans le43).trans le52)) _) ?_
  intro r56 w57 h58 le59 st60 q61
  obtain rfl := q61
  refine v_mvT X X<|v_extract (v := (.agg (List.toArray _))) X X X<|v_extract (v := (.int _ _)) X X X<|zD st60 Tryz.zeroValue36 X X ?_
  intro b62 w63 st64
  refine zC st64 (k := 2) X X X (zp X (zp X zQ)) Tryz.sizeOf36 X X X ?_
  intro w65 st66
  obtain ⟨h67, le68, hb69, st71⟩ := st66.freeze (k := 2) rfl
  have hc70 := Cells.of hb69
  refine v_asI X X<|Y<|W.sr<|v_load_call st71.sub (hc38.up (((le43.trans le52).trans le59).trans le68)) X Tryz.isAgg32 Tryz.sizeOf32 X X<|v_mvI X X<|zi st71 X X X Tryz.call19 X (c_vote_Tally st71.sub (p := (p)) (f21.up ((((le36.trans le43).trans le52).trans le59).trans le68)) (f23.up ((((le36.trans le43).trans le52).trans le59).trans le68)) (f25.up ((((le36.trans le43).trans le52).trans le59).trans le68)) (f27.up ((((le36.trans le43).trans le52).trans le59).trans le68)) (f29.up ((((le36.trans le43).trans le52).trans le59).trans le68)) _ (K1.up (((((((le4.trans le10).trans le17).trans le36).trans le43).trans le52).trans le59).trans le68)) (K0.up (((((((le4.trans le10).trans le17).trans le36).trans le43).trans le52).trans le59).trans le68))) ?_
  intro r72 w73 h74 le75 st76 q77
  obtain ⟨v78, rfl, f79⟩ := q77
  have f79_b := f79.le
  refine v_mvT X X<|v_extract (v := v78) X X X<|v_extract (v := (.int _ _)) X X X<|v_assign (v := v78) X X<|v_asI X X<|Y<|W.sr<|v_load_call st76.sub (hc5.up (((((((le10.trans le17).trans le36).trans le43).trans le52).trans le59).trans le68).trans le75)) X Tryz.isAgg32 Tryz.sizeOf32 X X<|v_mvI X X<|zi st76 X X X Tryz.call20 X (c_postilref07_Tally st76.sub (p := p) (p_f0.up ((((((((le4.trans le10).trans le17).trans le36).trans le43).trans le52).trans le59).trans le68).trans le75)) (p_f1.up ((((((((le4.trans le10).trans le17).trans le36).trans le43).trans le52).trans le59).trans le68).trans le75)) (p_f2.up ((((((((le4.trans le10).trans le17).trans le36).trans le43).trans le52).trans le59).trans le68).trans le75)) (p_f3.up ((((((((le4.trans le10).trans le17).trans le36).trans le43).trans le52).trans le59).trans le68).trans le75)) (p_f4.up ((((((((le4.trans le10).trans le17).trans le36).trans le43).trans le52).trans le59).trans le68).trans le75)) _) ?_
  intro r80 w81 h82 le83 st84 q85
  obtain ⟨v86, rfl, f87⟩ := q85
  have f87_b := f87.le
  refine v_mvT X X<|v_extract (v := v86) X X X<|v_extract (v := (.int _ _)) X X X<|v_assign (v := v86) X X<|v_asI X X<|Y<|zf<|W.sr<|v_load_call st84.sub (hc54.up (((le59.trans le68).trans le75).trans le83)) X Tryz.isAgg36 Tryz.sizeOf36 X X<|v_load_call st84.sub (hc70.up (le75.trans le83)) X Tryz.isAgg36 Tryz.sizeOf36 X X<|zk X X (r_stneq X X Tryz.eqGuardType36 (Tryz.eq_Span (wrongsR ((p)) (voter)) (wrongsR (p) (voter))))<|v_mvB X X ?_
  refine zx (d := 51) rfl (fun g88 => ?_) (fun g88 => ?_)
  ·
   replace g88 := of_decide_eq_true g88
   refine Z X X X X X<|Z X X X X X<|Z X X X X X<|v_pickT (v := (.bool _)) X X X<|v_mvB X X<|Z X X X X X<|Z X X X X X<|Z X X X X X<|Z X X X X X<|v_pickT (v := (.bool _)) X X X<|v_mvB X X<|Z X X X X X<|Z X X X X X<|Z X X X X X<|v_pickT (v := (.bool _)) X X X<|Y ?_
   refine zh rfl (fun c89 => ?_) (fun c89 => ?_)
   ·
    refine W.sr<|v_asB X X<|Y<|zo<|E<|za Tryz.results3 ?_
    refine ⟨h82, _, rfl, st84.done, ?_⟩
    refine zj ?_
    first | rfl | (simp_all; done)
   ·
    cases c89
  ·
   replace g88 := of_decide_eq_false g88
   refine M X X (d := 51) X<|v_mvI X X<|M X X (d := 51) X<|v_mvI X X<|M X X (d := 51) X<|v_neq X X X<|v_pickF (v := (.bool _)) X X X<|v_mvB X X ?_
   refine zx (d := 56) rfl (fun g90 => ?_) (fun g90 => ?_)
   ·
    replace g90 := of_decide_eq_true g90
    refine Z X X X X X<|Z X X X X X<|Z X X X X X<|Z X X X X X<|v_pickT (v := (.bool _)) X X X<|v_mvB X X<|Z X X X X X<|Z X X X X X<|Z X X X X X<|v_pickT (v := (.bool _)) X X X<|Y ?_
    refine zh rfl (fun c91 => ?_) (fun c91 => ?_)
    ·
     refine W.sr<|v_asB X X<|Y<|zo<|E<|za Tryz.results3 ?_
     refine ⟨h82, _, rfl, st84.done, ?_⟩
     refine zj ?_
     first | rfl | (simp_all; done)
    ·
     cases c91
   ·
    replace g90 := of_decide_eq_false g90
    refine M X X (d := 56) X<|v_move (v := v78) X X<|M X X (d := 56) X<|v_move (v := v86) X X<|M X X (d := 56) X<|zi st84 X X X Tryz.call21 X (c_postilref07_SameInts st84.sub (f79.up le83) f87) ?_
    intro r92 w93 h94 le95 st96 q97
    obtain rfl := q97
    refine M X X (d := 56) X<|v_not X X<|v_pickF (v := (.bool _)) X X X<|v_mvB X X ?_
    refine zx (d := 62) rfl (fun g98 => ?_) (fun g98 => ?_)
    ·
     refine Z X X X X X<|Z X X X X X<|Z X X X X X<|v_pickT (v := (.bool _)) X X X<|Y ?_
     refine zh rfl (fun c99 => ?_) (fun c99 => ?_)
     ·
      refine W.sr<|v_asB X X<|Y<|zo<|E<|za Tryz.results3 ?_
      refine ⟨h94, _, rfl, st96.done, ?_⟩
      refine zj ?_
      first | rfl | (simp_all; done)
     ·
      cases c99
    ·
     refine M X X (d := 62) X<|v_mvI X X<|M X X (d := 62) X<|v_mvI X X<|M X X (d := 62) X<|v_neq X X X<|v_pickF (v := (.bool _)) X X X<|Y ?_
     refine zh rfl (fun c100 => ?_) (fun c100 => ?_)
     ·
      replace c100 := of_decide_eq_true c100
      refine W.sr<|v_asB X X<|Y<|zo<|E<|za Tryz.results3 ?_
      refine ⟨h94, _, rfl, st96.done, ?_⟩
      refine zj ?_
      first | rfl | (simp_all; done)
     ·
      replace c100 := of_decide_eq_false c100
      refine zr<|U<|W.sr<|v_load_call st96.sub (hc38.up ((((((le43.trans le52).trans le59).trans le68).trans le75).trans le83).trans le95)) X Tryz.isAgg32 Tryz.sizeOf32 X X<|zi st96 X X X Tryz.call22 X (c_vote_Ask st96.sub (p := (p)) (f21.up (((((((le36.trans le43).trans le52).trans le59).trans le68).trans le75).trans le83).trans le95)) (f23.up (((((((le36.trans le43).trans le52).trans le59).trans le68).trans le75).trans le83).trans le95)) (f25.up (((((((le36.trans le43).trans le52).trans le59).trans le68).trans le75).trans le83).trans le95)) (f27.up (((((((le36.trans le43).trans le52).trans le59).trans le68).trans le75).trans le83).trans le95)) (f29.up (((((((le36.trans le43).trans le52).trans le59).trans le68).trans le75).trans le83).trans le95)) (K1.up ((((((((((le4.trans le10).trans le17).trans le36).trans le43).trans le52).trans le59).trans le68).trans le75).trans le83).trans le95)) (K0.up ((((((((((le4.trans le10).trans le17).trans le36).trans le43).trans le52).trans le59).trans le68).trans le75).trans le83).trans le95))) ?_
      intro r101 w102 h103 le104 st105 q106
      obtain ⟨v107, rfl, f108⟩ := q106
      have f108_b := f108.le
      refine v_mvT X X<|v_extract (v := v107) X X X<|v_extract (v := (.int _ _)) X X X<|v_assign (v := v107) X X<|v_asI X X<|Y<|W.sr<|v_load_call st105.sub (hc5.up ((((((((((le10.trans le17).trans le36).trans le43).trans le52).trans le59).trans le68).trans le75).trans le83).trans le95).trans le104)) X Tryz.isAgg32 Tryz.sizeOf32 X X<|zi st105 X X X Tryz.call23 X (c_postilref07_Ask st105.sub (p := p) (p_f0.up (((((((((((le4.trans le10).trans le17).trans le36).trans le43).trans le52).trans le59).trans le68).trans le75).trans le83).trans le95).trans le104)) (p_f1.up (((((((((((le4.trans le10).trans le17).trans le36).trans le43).trans le52).trans le59).trans le68).trans le75).trans le83).trans le95).trans le104)) (p_f2.up (((((((((((le4.trans le10).trans le17).trans le36).trans le43).trans le52).trans le59).trans le68).trans le75).trans le83).trans le95).trans le104)) (p_f3.up (((((((((((le4.trans le10).trans le17).trans le36).trans le43).trans le52).trans le59).trans le68).trans le75).trans le83).trans le95).trans le104)) (p_f4.up (((((((((((le4.trans le10).trans le17).trans le36).trans le43).trans le52).trans le59).trans le68).trans le75).trans le83).trans le95).trans le104))) ?_
      intro r109 w110 h111 le112 st113 q114
      obtain ⟨v115, rfl, f116⟩ := q114
      have f116_b := f116.le
      refine v_mvT X X<|v_extract (v := v115) X X X<|v_extract (v := (.int _ _)) X X X<|v_assign (v := v115) X X<|v_asI X X<|Y<|W.sr<|v_load_call st113.sub (hc38.up ((((((((le43.trans le52).trans le59).trans le68).trans le75).trans le83).trans le95).trans le104).trans le112)) X Tryz.isAgg32 Tryz.sizeOf32 X X<|zi st113 X X X Tryz.call24 X (c_vote_Next st113.sub (p := (p)) (f21.up (((((((((le36.trans le43).trans le52).trans le59).trans le68).trans le75).trans le83).trans le95).trans le104).trans le112)) (f23.up (((((((((le36.trans le43).trans le52).trans le59).trans le68).trans le75).trans le83).trans le95).trans le104).trans le112)) (f25.up (((((((((le36.trans le43).trans le52).trans le59).trans le68).trans le75).trans le83).trans le95).trans le104).trans le112)) (f27.up (((((((((le36.trans le43).trans le52).trans le59).trans le68).trans le75).trans le83).trans le95).trans le104).trans le112)) (f29.up (((((((((le36.trans le43).trans le52).trans le59).trans le68).trans le75).trans le83).trans le95).trans le104).trans le112)) (K1.up ((((((((((((le4.trans le10).trans le17).trans le36).trans le43).trans le52).trans le59).trans le68).trans le75).trans le83).trans le95).trans le104).trans le112)) (K0.up ((((((((((((le4.trans le10).trans le17).trans le36).trans le43).trans le52).trans le59).trans le68).trans le75).trans le83).trans le95).trans le104).trans le112))) ?_
      intro r117 w118 h119 le120 st121 q122
      obtain rfl := q122
      refine v_mvT X X<|v_extract (v := (.int _ _)) X X X<|v_extract (v := (.int _ _)) X X X<|v_asI X X<|v_asI X X<|Y<|W.sr<|v_load_call st121.sub (hc5.up ((((((((((((le10.trans le17).trans le36).trans le43).trans le52).trans le59).trans le68).trans le75).trans le83).trans le95).trans le104).trans le112).trans le120)) X Tryz.isAgg32 Tryz.sizeOf32 X X<|zi st121 X X X Tryz.call25 X (c_postilref07_Next st121.sub (p := p) (p_f0.up (((((((((((((le4.trans le10).trans le17).trans le36).trans le43).trans le52).trans le59).trans le68).trans le75).trans le83).trans le95).trans le104).trans le112).trans le120)) (p_f1.up (((((((((((((le4.trans le10).trans le17).trans le36).trans le43).trans le52).trans le59).trans le68).trans le75).trans le83).trans le95).trans le104).trans le112).trans le120)) (p_f2.up (((((((((((((le4.trans le10).trans le17).trans le36).trans le43).trans le52).trans le59).trans le68).trans le75).trans le83).trans le95).trans le104).trans le112).trans le120)) (p_f3.up (((((((((((((le4.trans le10).trans le17).trans le36).trans le43).trans le52).trans le59).trans le68).trans le75).trans le83).trans le95).trans le104).trans le112).trans le120)) (p_f4.up (((((((((((((le4.trans le10).trans le17).trans le36).trans le43).trans le52).trans le59).trans le68).trans le75).trans le83).trans le95).trans le104).trans le112).trans le120))) ?_
      intro r123 w124 h125 le126 st127 q128
      obtain rfl := q128
      refine v_mvT X X<|v_extract (v := (.int _ _)) X X X<|v_extract (v := (.int _ _)) X X X<|v_asI X X<|v_asI X X<|Y<|W.sr<|v_move (v := v107) X X<|v_move (v := v115) X X<|zi st127 X X X Tryz.call21 X (c_postilref07_SameInts st127.sub (f108.up ((le112.trans le120).trans le126)) (f116.up (le120.trans le126))) ?_
      intro r129 w130 h131 le132 st133 q134
      obtain rfl := q134
      refine v_mvB X X ?_
      refine zx (d := 90) rfl (fun g135 => ?_) (fun g135 => ?_)
      ·
       refine M X X (d := 90) X<|v_mvI X X<|M X X (d := 90) X<|v_mvI X X<|M X X (d := 90) X<|v_eql X X X<|v_pickT (v := (.bool _)) X X X<|v_mvB X X ?_
       refine zx (d := 95) rfl (fun g136 => ?_) (fun g136 => ?_)
       ·
        replace g136 := of_decide_eq_true g136
        refine M X X (d := 95) X<|v_mvI X X<|M X X (d := 95) X<|v_mvI X X<|M X X (d := 95) X<|v_eql X X X<|v_pickT (v := (.bool _)) X X X<|v_mvB X X ?_
        refine zx (d := 100) rfl (fun g137 => ?_) (fun g137 => ?_)
        ·
         replace g137 := of_decide_eq_true g137
         refine M X X (d := 100) X<|v_mvI X X<|M X X (d := 100) X<|v_mvI X X<|M X X (d := 100) X<|v_eql X X X<|v_pickT (v := (.bool _)) X X X<|v_mvB X X ?_
         refine zx (d := 105) rfl (fun g138 => ?_) (fun g138 => ?_)
         ·
          replace g138 := of_decide_eq_true g138
          refine M X X (d := 105) X<|v_load_call st133.sub (hc38.up (((((((((((le43.trans le52).trans le59).trans le68).trans le75).trans le83).trans le95).trans le104).trans le112).trans le120).trans le126).trans le132)) X Tryz.isAgg32 Tryz.sizeOf32 X X<|M X X (d := 105) X<|v_load_call st133.sub (hc5.up ((((((((((((((le10.trans le17).trans le36).trans le43).trans le52).trans le59).trans le68).trans le75).trans le83).trans le95).trans le104).trans le112).trans le120).trans le126).trans le132)) X Tryz.isAgg32 Tryz.sizeOf32 X X<|M X X (d := 105) X<|zi st133 X X X Tryz.call26 X (c_postilref07_Same st133.sub (a := (p)) (f21.up ((((((((((((le36.trans le43).trans le52).trans le59).trans le68).trans le75).trans le83).trans le95).trans le104).trans le112).trans le120).trans le126).trans le132)) (f23.up ((((((((((((le36.trans le43).trans le52).trans le59).trans le68).trans le75).trans le83).trans le95).trans le104).trans le112).trans le120).trans le126).trans le132)) (f25.up ((((((((((((le36.trans le43).trans le52).trans le59).trans le68).trans le75).trans le83).trans le95).trans le104).trans le112).trans le120).trans le126).trans le132)) (f27.up ((((((((((((le36.trans le43).trans le52).trans le59).trans le68).trans le75).trans le83).trans le95).trans le104).trans le112).trans le120).trans le126).trans le132)) (f29.up ((((((((((((le36.trans le43).trans le52).trans le59).trans le68).trans le75).trans le83).trans le95).trans le104).trans le112).trans le120).trans le126).trans le132)) (b := p) (p_f0.up (((((((((((((((le4.trans le10).trans le17).trans le36).trans le43).trans le52).trans le59).trans le68).trans le75).trans le83).trans le95).trans le104).trans le112).trans le120).trans le126).trans le132)) (p_f1.up (((((((((((((((le4.trans le10).trans le17).trans le36).trans le43).trans le52).trans le59).trans le68).trans le75).trans le83).trans le95).trans le104).trans le112).trans le120).trans le126).trans le132)) (p_f2.up (((((((((((((((le4.trans le10).trans le17).trans le36).trans le43).trans le52).trans le59).trans le68).trans le75).trans le83).trans le95).trans le104).trans le112).trans le120).trans le126).trans le132)) (p_f3.up (((((((((((((((le4.trans le10).trans le17).trans le36).trans le43).trans le52).trans le59).trans le68).trans le75).trans le83).trans le95).trans le104).trans le112).trans le120).trans le126).trans le132)) (p_f4.up (((((((((((((((le4.trans le10).trans le17).trans le36).trans le43).trans le52).trans le59).trans le68).trans le75).trans le83).trans le95).trans le104).trans le112).trans le120).trans le126).trans le132))) ?_
          intro r139 w140 h141 le142 st143 q144
          obtain rfl := q144
          refine v_pickT (v := (.bool _)) X X X<|v_asB X X<|Y<|zo<|za Tryz.results3 ?_
          refine ⟨h141, _, rfl, st143.done, ?_⟩
          refine zj ?_
          first | rfl | (simp_all; done)
         ·
          replace g138 := of_decide_eq_false g138
          refine Z X X X X X<|Z X X X X X<|Z X X X X X<|v_pickF (v := (.bool _)) X X X<|v_asB X X<|Y<|zo<|za Tryz.results3 ?_
          refine ⟨h131, _, rfl, st133.done, ?_⟩
          refine zj ?_
          first | rfl | (simp_all; done)
        ·
         replace g137 := of_decide_eq_false g137
         refine Z X X X X X<|Z X X X X X<|Z X X X X X<|v_pickF (v := (.bool _)) X X X<|v_mvB X X<|Z X X X X X<|Z X X X X X<|Z X X X X X<|v_pickF (v := (.bool _)) X X X<|v_asB X X<|Y<|zo<|za Tryz.results3 ?_
         refine ⟨h131, _, rfl, st133.done, ?_⟩
         refine zj ?_
         first | rfl | (simp_all; done)
       ·
        replace g136 := of_decide_eq_false g136
        refine Z X X X X X<|Z X X X X X<|Z X X X X X<|v_pickF (v := (.bool _)) X X X<|v_mvB X X<|Z X X X X X<|Z X X X X X<|Z X X X X X<|v_pickF (v := (.bool _)) X X X<|v_mvB X X<|Z X X X X X<|Z X X X X X<|Z X X X X X<|v_pickF (v := (.bool _)) X X X<|v_asB X X<|Y<|zo<|za Tryz.results3 ?_
        refine ⟨h131, _, rfl, st133.done, ?_⟩
        refine zj ?_
        first | rfl | (simp_all; done)
      ·
       refine Z X X X X X<|Z X X X X X<|Z X X X X X<|v_pickF (v := (.bool _)) X X X<|v_mvB X X<|Z X X X X X<|Z X X X X X<|Z X X X X X<|v_pickF (v := (.bool _)) X X X<|v_mvB X X<|Z X X X X X<|Z X X X X X<|Z X X X X X<|v_pickF (v := (.bool _)) X X X<|v_mvB X X<|Z X X X X X<|Z X X X X X<|Z X X X X X<|v_pickF (v := (.bool _)) X X X<|v_asB X X<|Y<|zo<|za Tryz.results3 ?_
       refine ⟨h131, _, rfl, st133.done, ?_⟩
       refine zj ?_
       first | rfl | (simp_all; done)
end Go.Pk
