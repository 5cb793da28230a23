/- A PART OF THE PROOF: contracts of functions, each walked once (much of it printed by a program of the author's own). -/
import Derived.Test.YtngmpkoobdkeiaaGreatDoorT7
import Derived.Test.YtngmpkoobdkeiaaGreatDoorT1
import Derived.Test.YtngmpkoobdkeiaaGreatDoorT3
import Derived.Test.YtngmpkoobdkeiaaGreatDoorT4
import Derived.Test.YtngmpkoobdkeiaaGreatDoorT2
import Derived.Test.YtngmpkoobdkeiaaGreatDoorT5
import Derived.Test.YtngmpkoobdkeiaaGreatDoorT6
namespace Go.Pk
open Go Go.RowKit Go.Proofs
set_option maxRecDepth 4000 in
theorem c_stem_Check_1 {h : Heap} {w : World} (hs : Sub h w) {r : Rule} (r_l1 : r.cut.length ≤ 281474976710656) (r_l2 : r.put.length ≤ 281474976710656) : Calls Tryz.prog 49 #[.agg #[strV r.cut, strV r.put, .int .i64 r.least]] w (Rets h w (fun _ _ res_ => res_ = .bool (ruleB r))) := by
 refine zM (n := 24) (args := [.agg #[strV r.cut, strV r.put, .int .i64 r.least]]) Tryz.func49 X X X ?_
 have st0 : St h w h w [] := St.start hs
 refine zd<|O<|zr st0 (cs := [strV (r.cut), strV (r.put), .int .i64 (r.least)]) X X X ?_
 intro b1 w2 h3 le4 hc5 st6
 refine Y X X (zJ X)<|U<|M<|zd<|O<|Y X X (zc X Tryz.underlying70 X Tryz.sizeOf9 X)<|Y X X (zb (j := 0) st6.sub hc5 X X X Tryz.isAgg9)<|zm st6 X X X Tryz.call41 X (c_stem_letters st6.sub _ zZ _) ?_
 intro r7 w8 h9 le10 st11 q12
 obtain rfl := q12
 refine Y X X (zN X) ?_
 refine zG (d := 6) rfl (fun g13 => ?_) (fun g13 => ?_)
 ·
  refine za X X (d := 6) X<|Y X X (zc X Tryz.underlying70 X Tryz.sizeOf9 X)<|za X X (d := 6) X<|Y X X (zb (j := 1) st11.sub (hc5.up le10) X X X Tryz.isAgg9)<|za X X (d := 6) X<|zm st11 X X X Tryz.call41 X (c_stem_letters st11.sub _ zZ _) ?_
  intro r14 w15 h16 le17 st18 q19
  obtain rfl := q19
  refine Y X X (zK (v := (.bool _)) X X)<|Y X X (zN X) ?_
  refine zG (d := 11) rfl (fun g20 => ?_) (fun g20 => ?_)
  ·
   refine za X X (d := 11) X<|Y X X (zc X Tryz.underlying70 X Tryz.sizeOf9 X)<|za X X (d := 11) X<|Y X X (zb (j := 0) st18.sub (hc5.up (le10.trans le17)) X X X Tryz.isAgg9)<|za X X (d := 11) X<|Y X X (zc X Tryz.underlying70 X Tryz.sizeOf9 X)<|za X X (d := 11) X<|Y X X (zb (j := 1) st18.sub (hc5.up (le10.trans le17)) X X X Tryz.isAgg9)<|za X X (d := 11) X<|Y X X (r_sneq X X)<|Y X X (zK (v := (.bool _)) X X)<|Y X X (zN X) ?_
   refine zG (d := 18) rfl (fun g21 => ?_) (fun g21 => ?_)
   ·
    replace g21 := of_decide_eq_true g21
    refine za X X (d := 18) X<|Y X X (zc X Tryz.underlying70 X Tryz.sizeOf3 X)<|za X X (d := 18) X<|Y X X (zb (j := 2) st18.sub (hc5.up (le10.trans le17)) X X X Tryz.isAgg3)<|za X X (d := 18) X<|zV (L := LInt) (xs := [(r.least)]) (cs := [.int .i64 (r.least)]) st18 (Enc.cons (L := LInt) (vs := [.int .i64 (r.least)]) (x := (r.least)) (h := h16) (X) Enc.nil) X X X Tryz.underlying39 Tryz.info3 X X X t_kr ?_
    intro v22 w23 h26 le27 f24 st25
    refine za X X (d := 18) X<|zm st25 X X X Tryz.call50 X (c_stem_in st25.sub _ _ f24) ?_
    intro r28 w29 h30 le31 st32 q33
    obtain rfl := q33
    refine Y X X (zK (v := (.bool _)) X X)<|Y X X (zJ X)<|U<|M<|zA<|zi Tryz.results49 ?_
    refine ⟨h30, _, rfl, st32.done, ?_⟩
    refine zw ?_
    simp_all [ruleB, inAll_one]
   ·
    replace g21 := of_decide_eq_false g21
    refine E X X (d := 18) X X X<|E X X (d := 18) X X X<|E X X (d := 18) X X X<|E X X (d := 18) X X X<|Y X X (zC (v := (.bool _)) X X)<|Y X X (zJ X)<|U<|M<|zA<|zi Tryz.results49 ?_
    refine ⟨h16, _, rfl, st18.done, ?_⟩
    refine zw ?_
    simp_all [ruleB, inAll_one]
  ·
   refine E X X (d := 11) X X X<|E X X (d := 11) X X X<|E X X (d := 11) X X X<|E X X (d := 11) X X X<|E X X (d := 11) X X X<|Y X X (zC (v := (.bool _)) X X)<|Y X X (zN X)<|E X X (d := 18) X X X<|E X X (d := 18) X X X<|E X X (d := 18) X X X<|E X X (d := 18) X X X<|Y X X (zC (v := (.bool _)) X X)<|Y X X (zJ X)<|U<|M<|zA<|zi Tryz.results49 ?_
   refine ⟨h16, _, rfl, st18.done, ?_⟩
   refine zw ?_
   simp_all [ruleB, inAll_one]
 ·
  refine E X X (d := 6) X X X<|E X X (d := 6) X X X<|E X X (d := 6) X X X<|Y X X (zC (v := (.bool _)) X X)<|Y X X (zN X)<|E X X (d := 11) X X X<|E X X (d := 11) X X X<|E X X (d := 11) X X X<|E X X (d := 11) X X X<|E X X (d := 11) X X X<|Y X X (zC (v := (.bool _)) X X)<|Y X X (zN X)<|E X X (d := 18) X X X<|E X X (d := 18) X X X<|E X X (d := 18) X X X<|E X X (d := 18) X X X<|Y X X (zC (v := (.bool _)) X X)<|Y X X (zJ X)<|U<|M<|zA<|zi Tryz.results49 ?_
  refine ⟨h9, _, rfl, st11.done, ?_⟩
  refine zw ?_
  simp_all [ruleB, inAll_one]
set_option maxRecDepth 4000 in
theorem c_stem_Check_2 {h0 h : Heap} {w0 w : World} {rest : Own} {m : List (Int × Bool)} {m_o : List (Nat × Obj)} {m_v : Value} (m_M : OM (fun n : Int => .int .i64 n) (fun b : Bool => .bool b) m m_o m_v) (m_N : (m.map (·.1)).Nodup) {d : Decision} (d_l2 : 0 ≤ d.kind ∧ d.kind ≤ 255) (d_l3 : d.form.length ≤ 281474976710656) (d_l7 : d.to.stem.length ≤ 281474976710656) (d_l8 : 0 ≤ d.to.mark ∧ d.to.mark ≤ 255) {numbers_b : Nat} (numbers_c : Cells h numbers_b 0 [m_v]) {t_b : Nat} {t : Text} {t_v0 : Value} (t_f0 : Sl LChapter h t_v0 t.chapters) (t_c : Cells h t_b 0 [t_v0]) (K0 : Cells h 0 0 Tryz.glob0) (ht : textB t = true) (st0 : St h0 w0 h w (m_o :: rest)) : Calls Tryz.prog 52 #[.agg #[.int .i64 d.number, .int .u8 d.kind, strV d.form, .int .i64 d.at_.chapter, .int .i64 d.at_.line, .int .i64 d.at_.word, strV d.to.stem, .int .u8 d.to.mark, .int .i64 d.of_], .pointer (some ⟨numbers_b, 0, none⟩), .pointer (some ⟨t_b, 0, none⟩)] w (fun e_ w' => ∃ h' res_ m_o', e_ = .returned res_ ∧ Le h h' ∧ St h0 w0 h' w' (m_o' :: rest) ∧ OM (fun n : Int => .int .i64 n) (fun b : Bool => .bool b) (putM m d.number true) m_o' m_v ∧ ((putM m d.number true).map (·.1)).Nodup ∧ (res_ = .bool ((!((look m d.number).getD false) && decisionB t d)))) := by
 refine zM (n := 20) (args := [.agg #[.int .i64 d.number, .int .u8 d.kind, strV d.form, .int .i64 d.at_.chapter, .int .i64 d.at_.line, .int .i64 d.at_.word, strV d.to.stem, .int .u8 d.to.mark, .int .i64 d.of_], .pointer (some ⟨numbers_b, 0, none⟩), .pointer (some ⟨t_b, 0, none⟩)]) Tryz.func52 X X X ?_
 have t_f0_b := t_f0.le
 refine zd<|O<|zr st0 (cs := [.int .i64 (d.number), .int .u8 (d.kind), strV (d.form), .int .i64 (d.at_.chapter), .int .i64 (d.at_.line), .int .i64 (d.at_.word), strV (d.to.stem), .int .u8 (d.to.mark), .int .i64 (d.of_)]) X X X ?_
 intro b1 w2 h3 le4 hc5 st6
 refine Y X X (zJ X)<|U<|M<|zd<|O<|Y X X (zb (j := 0) st6.sub (numbers_c.up le4) X X X Tryz.isAgg107)<|Y X X (zc X Tryz.underlying56 X Tryz.sizeOf3 X)<|Y X X (zb (j := 0) st6.sub hc5 X X X Tryz.isAgg3)<|Y X X (r_look (k := (d.number)) (zu := false) (key_int Tryz.underlying3) Tryz.underlying107 m_M (st6.ent (k := 0) X) Tryz.zeroValue4 X X X)<|Y X X (zJ X)<|U<|M<|zd<|O<|Y X X (zb (j := 0) st6.sub (numbers_c.up le4) X X X Tryz.isAgg107)<|Y X X (zc X Tryz.underlying56 X Tryz.sizeOf3 X)<|Y X X (zb (j := 0) st6.sub hc5 X X X Tryz.isAgg3)<|OpsL.mapUpdate (i := 0) st6 m_M X m_N (key_int Tryz.underlying3) Tryz.underlying107 X (k := (d.number)) X (u := true) X ?_
 intro o7 w8 _ e9 f10 nd11 st12
 subst e9
 refine U<|M<|zd<|O<|Y X X (zN X)<|Y X X (r_not X)<|Y X X (zN X) ?_
 refine zG (d := 15) rfl (fun g13 => ?_) (fun g13 => ?_)
 ·
  refine za X X (d := 15) X<|Y X X (zf st12.sub (t_c.up le4) X Tryz.isAgg24 Tryz.sizeOf24 X)<|za X X (d := 15) X<|Y X X (zf st12.sub hc5 X Tryz.isAgg56 Tryz.sizeOf56 X)<|za X X (d := 15) X ?_
  refine zm st12 rfl rfl rfl Tryz.call53 rfl (c_stem_decided st12.sub (t := t) (t_f0.up le4) (d := d) t_u8 zZ zZ t_u8 (K0.up le4) (by assumption)) ?_
  intro r14 w15 h16 le17 st18 q19
  obtain rfl := q19
  refine Y X X (zK (v := (.bool _)) X X)<|Y X X (zJ X)<|U<|M<|zA<|zi Tryz.results52 ?_
  refine ⟨h16, _, o7, rfl, (le4.trans le17), st18, f10, nd11, ?_⟩
  refine zw ?_
  simp_all
 ·
  refine E X X (d := 15) X X X<|E X X (d := 15) X X X<|E X X (d := 15) X X X<|Y X X (zC (v := (.bool _)) X X)<|Y X X (zJ X)<|U<|M<|zA<|zi Tryz.results52 ?_
  refine ⟨h3, _, o7, rfl, le4, st12, f10, nd11, ?_⟩
  refine zw ?_
  simp_all
set_option maxRecDepth 4000 in
theorem c_stem_Check {h : Heap} {w : World} (hs : Sub h w) {t : Text} {t_v0 : Value} (t_f0 : Sl LChapter h t_v0 t.chapters) {x : Lexicon} {x_v0 : Value} (x_f0 : Sl LRule h x_v0 x.rules) {x_v1 : Value} (x_f1 : Sl LDecision h x_v1 x.decisions) (K0 : Cells h 0 0 Tryz.glob0) : Calls Tryz.prog 14 #[.agg #[t_v0], .agg #[x_v0, x_v1]] w (Rets h w (fun _ _ res_ => res_ = .int .i64 (checkN t x))) := by
 refine zM (n := 40) (args := [.agg #[t_v0], .agg #[x_v0, x_v1]]) Tryz.func14 X X X ?_
 have st0 : St h w h w [] := St.start hs
 have t_f0_b := t_f0.le
 have x_f0_b := x_f0.le
 have x_f1_b := x_f1.le
 refine zd<|O<|zr st0 (cs := [t_v0]) X X X ?_
 intro b1 w2 h3 le4 hc5 st6
 refine zr st6 (cs := [x_v0, x_v1]) X X X ?_
 intro b7 w8 h9 le10 hc11 st12
 refine Y X X (zx X)<|U<|M<|zd<|zd<|O<|Y X X (zf st12.sub (hc5.up le10) X Tryz.isAgg24 Tryz.sizeOf24 X)<|zm st12 X X X Tryz.call47 X (c_leaf_Check st12.sub (t := t) (t_f0.up (le4.trans le10))) ?_
 intro r13 w14 h15 le16 st17 q18
 obtain rfl := q18
 refine Y X X (zx X)<|U<|M<|zd<|O<|Y X X (zo X)<|Y X X (r_neq X X)<|U<|M ?_
 refine zt rfl (fun c19 => ?_) (fun c19 => ?_)
 ·
  replace c19 := of_decide_eq_true c19
  refine zd<|O<|Y X X (zo X)<|Y X X (zx X)<|U<|M<|zA<|zk<|zi Tryz.results14 ?_
  refine ⟨h15, _, rfl, st17.done, ?_⟩
  refine zW ?_
  first | (simp_all [checkN, lexiconB]; done) | (simp_all [checkN, lexiconB]; omega) | (simp [checkN, ht, lexiconB]; intros; omega)
 ·
  replace c19 := of_decide_eq_false c19
  refine zz<|M<|zd<|O<|OpsL.makeMap (κ := Int) (υ := Bool) (ek := (fun n : Int => .int .i64 n)) (eu := (fun b : Bool => .bool b)) st17 X ?_
  intro v20 o21 w22 f23 st24
  obtain ⟨mb25, rfl⟩ := f23.form
  have nd26 : (([] : List (Int × Bool)).map (·.1)).Nodup := by simp
  refine zO st24 Tryz.zeroValue107 X X ?_
  intro b27 w28 st29
  refine zas st29 (k := 1) X X (v := (.map (some mb25))) X f23.one Tryz.sizeOf107 X X X ?_
  intro w30 st31
  obtain ⟨h32, le33, hb34, st36⟩ := st31.freeze (k := 1) rfl
  have hc35 := Cells.of hb34
  refine U<|M<|zd<|O<|Y X X (zc X Tryz.underlying28 X Tryz.sizeOf25 X)<|Y X X (zb (j := 0) st36.sub (hc11.up (le16.trans le33)) X X X Tryz.isAgg25) ?_
  refine zm st36 rfl rfl rfl Tryz.call48 rfl (c_stem_all_api_Rule st36.sub (x_f0.up (((le4.trans le10).trans le16).trans le33)) (fun x_ => ruleB (x_)) (fun x_ h_ w_ vs_ le_ hs_ hx_ hr_ u_ hu_ => by obtain ⟨rfl, f0_, f1_⟩ := hr_; cases hu_; simp only [big] at *; exact c_stem_Check_1 hs_ (r := x_) f0_ f1_) Tryz.call49) ?_
  intro r37 w38 h39 le40 st41 q42
  obtain rfl := q42
  refine Y X X (zJ X)<|U<|M<|zd<|O<|Y X X (zc X Tryz.underlying28 X Tryz.sizeOf26 X)<|Y X X (zb (j := 1) st41.sub (hc11.up ((le16.trans le33).trans le40)) X X X Tryz.isAgg26)<|Y X X (r_make_func X X) ?_
  have ht : textB t = true := by
   have q := c19
   cases e : textB t with
   | true => rfl
   | false => rw [e] at q; simp at q
  have con := c_stem_all_api_Decision_st (xs := x.decisions) (v := x_v1) (g := 52) (caps := [.pointer (some ⟨b27, 0, none⟩), .pointer (some ⟨b1, 0, none⟩)]) (fun (k_ : Nat) (h_ : Heap) (w_ : World) => ∃ (m_ : List (Int × Bool)) (o_ : List (Nat × Obj)), Le h39 h_ ∧ St h w h_ w_ [o_, []] ∧ OM (fun n : Int => .int .i64 n) (fun b : Bool => .bool b) m_ o_ (.map (some mb25)) ∧ (m_.map (·.1)).Nodup ∧ (∀ n_, (look m_ n_).getD false = decide (n_ ∈ ((x.decisions).take k_).map (·.number)))) (decP t x.decisions) ?_ ?_ ?_ Tryz.call52 ⟨[], _, Le.refl _, st41, f23, nd26, by simp [look]⟩
  rotate_left
  ·rintro k_ h_ w_ ⟨m_, o_, l_, s_, _⟩
   exact ⟨s_.sub, (x_f1.up ((((le4.trans le10).trans le16).trans le33).trans le40)).up l_⟩
  ·rintro k_ h_ w_ h2_ w2_ ⟨m_, o_, l_, s_, q_⟩ s2_
   exact ⟨m_, o_, l_.trans s2_.le, s_.call0 s2_, q_⟩
  ·rintro k_ d_ h_ w_ vs_ ⟨m_, o_, l_, s_, hM_, hN_, hm_⟩ hx_ hr_
   obtain ⟨rfl, f0_, f1_, f2_, f3_⟩ := hr_
   simp only [big] at *
   refine (c_stem_Check_2 hM_ hN_ (d := d_) f0_ f1_ f2_ f3_ ((hc35.up le40).up l_) (t := t) ((t_f0.up ((((le4.trans le10).trans le16).trans le33).trans le40)).up l_) ((hc5.up (((le10.trans le16).trans le33).trans le40)).up l_) ((K0.up ((((le4.trans le10).trans le16).trans le33).trans le40)).up l_) (by assumption) s_).mono ?_
   rintro e_ w3_ ⟨h3_, res_, o3_, rfl, l3_, s3_, hM3_, hN3_, rfl⟩
   refine ⟨h3_, ?_, l3_, _, _, l_.trans l3_, s3_, hM3_, hN3_, ?_⟩
   ·rw [decP_some hx_, hm_]
   ·intro n_
    rw [look_putM, take_snoc hx_, List.map_append]
    by_cases e_ : n_ = d_.number
    ·simp [e_]
    ·simp only [if_neg e_, hm_]; simp [e_]
  refine zad rfl rfl (zaj rfl Tryz.call51 rfl) (con.mono ?_)
  rintro _ w44 ⟨h45, k50, bb49, rfl, ⟨m51, o52, le53, st47, hM54, hN55, hm56⟩, hb48⟩
  refine ⟨_, rfl, ?_⟩
  clear con
  have hdB := decisions_iff hb48
  clear hb48
  subst hdB
  refine Y X X (zJ X)<|U<|M<|zd<|zd<|O<|Y X X (zN X)<|Y X X (r_not X)<|Y X X (zN X) ?_
  refine zG (d := 24) rfl (fun g57 => ?_) (fun g57 => ?_)
  ·
   refine E X X (d := 24) X X X<|E X X (d := 24) X X X<|Y X X (zK (v := (.bool _)) X X)<|Y X X (zN X)<|E X X (d := 28) X X X<|E X X (d := 28) X X X<|E X X (d := 28) X X X<|E X X (d := 28) X X X<|Y X X (zK (v := (.bool _)) X X)<|Y X X (zN X)<|E X X (d := 34) X X X<|E X X (d := 34) X X X<|E X X (d := 34) X X X<|E X X (d := 34) X X X<|Y X X (zK (v := (.bool _)) X X)<|U<|M ?_
   refine zt rfl (fun c58 => ?_) (fun c58 => ?_)
   ·
    refine zd<|O<|Y X X (zx X)<|U<|M<|zA<|zk<|zi Tryz.results14 ?_
    refine ⟨h45, _, rfl, st47.done, ?_⟩
    refine zW ?_
    cases e : x.rules.all ruleB with
    | true => exact absurd g57 (by rw [e]; simp)
    | false => simp only [checkN, ht, lexiconB, e]; simp
   ·
    cases c58
  ·
   refine za X X (d := 24) X<|Y X X (zN X)<|za X X (d := 24) X<|Y X X (r_not X)<|Y X X (zC (v := (.bool _)) X X)<|Y X X (zN X) ?_
   refine zG (d := 28) rfl (fun g59 => ?_) (fun g59 => ?_)
   ·
    refine E X X (d := 28) X X X<|E X X (d := 28) X X X<|E X X (d := 28) X X X<|E X X (d := 28) X X X<|Y X X (zK (v := (.bool _)) X X)<|Y X X (zN X)<|E X X (d := 34) X X X<|E X X (d := 34) X X X<|E X X (d := 34) X X X<|E X X (d := 34) X X X<|Y X X (zK (v := (.bool _)) X X)<|U<|M ?_
    refine zt rfl (fun c60 => ?_) (fun c60 => ?_)
    ·
     refine zd<|O<|Y X X (zx X)<|U<|M<|zA<|zk<|zi Tryz.results14 ?_
     refine ⟨h45, _, rfl, st47.done, ?_⟩
     refine zW ?_
     have q : (x.decisions.all (decisionB t) && decide (x.decisions.map (·.number)).Nodup) = false := by
      cases e : (x.decisions.all (decisionB t) && decide (x.decisions.map (·.number)).Nodup) with
      | true => exact absurd g59 (by rw [e]; simp)
      | false => rfl
     rw [checkN, show lexiconB t x = (decide (x.rules.length ≤ 12) && (decide (x.decisions.length ≤ 20) && (x.rules.all ruleB && (x.decisions.all (decisionB t) && decide (x.decisions.map (·.number)).Nodup)))) from by simp only [lexiconB, Bool.and_assoc], q]
     simp [ht]
    ·
     cases c60
   ·
    refine za X X (d := 28) X<|Y X X (zc X Tryz.underlying28 X Tryz.sizeOf25 X)<|za X X (d := 28) X<|Y X X (zb (j := 0) st47.sub (hc11.up (((le16.trans le33).trans le40).trans le53)) X X X Tryz.isAgg25)<|za X X (d := 28) X<|Y X X (zag (x_f0.up (((((le4.trans le10).trans le16).trans le33).trans le40).trans le53)) X Tryz.underlying25)<|za X X (d := 28) X<|Y X X (r_gtr X X)<|Y X X (zC (v := (.bool _)) X X)<|Y X X (zN X) ?_
    refine zG (d := 34) rfl (fun g61 => ?_) (fun g61 => ?_)
    ·
     replace g61 := of_decide_eq_true g61
     refine E X X (d := 34) X X X<|E X X (d := 34) X X X<|E X X (d := 34) X X X<|E X X (d := 34) X X X<|Y X X (zK (v := (.bool _)) X X)<|U<|M ?_
     refine zt rfl (fun c62 => ?_) (fun c62 => ?_)
     ·
      refine zd<|O<|Y X X (zx X)<|U<|M<|zA<|zk<|zi Tryz.results14 ?_
      refine ⟨h45, _, rfl, st47.done, ?_⟩
      refine zW ?_
      first | (simp_all [checkN, lexiconB]; done) | (simp_all [checkN, lexiconB]; omega) | (simp [checkN, ht, lexiconB]; intros; omega)
     ·
      cases c62
    ·
     replace g61 := of_decide_eq_false g61
     refine za X X (d := 34) X<|Y X X (zc X Tryz.underlying28 X Tryz.sizeOf26 X)<|za X X (d := 34) X<|Y X X (zb (j := 1) st47.sub (hc11.up (((le16.trans le33).trans le40).trans le53)) X X X Tryz.isAgg26)<|za X X (d := 34) X<|Y X X (zag (x_f1.up (((((le4.trans le10).trans le16).trans le33).trans le40).trans le53)) X Tryz.underlying26)<|za X X (d := 34) X<|Y X X (r_gtr X X)<|Y X X (zC (v := (.bool _)) X X)<|U<|M ?_
     refine zt rfl (fun c63 => ?_) (fun c63 => ?_)
     ·
      replace c63 := of_decide_eq_true c63
      refine zd<|O<|Y X X (zx X)<|U<|M<|zA<|zk<|zi Tryz.results14 ?_
      refine ⟨h45, _, rfl, st47.done, ?_⟩
      refine zW ?_
      first | (simp_all [checkN, lexiconB]; done) | (simp_all [checkN, lexiconB]; omega) | (simp [checkN, ht, lexiconB]; intros; omega)
     ·
      replace c63 := of_decide_eq_false c63
      refine zz<|M<|zd<|O<|Y X X (zx X)<|U<|M<|zA<|zi Tryz.results14 ?_
      refine ⟨h45, _, rfl, st47.done, ?_⟩
      refine zW ?_
      first | (simp_all [checkN, lexiconB]; done) | (simp_all [checkN, lexiconB]; omega) | (simp [checkN, ht, lexiconB]; intros; omega)
end Go.Pk

namespace Go.Pk
open Go Go.RowKit Go.Proofs
set_option maxRecDepth 4000 in
theorem zau {h : Heap} {w : World} (hs : Sub h w) {s_v : Value} {s : (List Decision)} (s_f : Sl LDecision h s_v s) (hl : s.length * 88 ≤ 140737488355328) : Calls Tryz.prog 64 #[s_v] w (fun e_ w' => ∃ h' res_ o_, e_ = .returned res_ ∧ Le h h' ∧ St h w h' w' [o_] ∧ OSl LDecision 56 h' res_ (s) o_) := by
 refine zM (n := 8) (args := [s_v]) Tryz.func64 X X X ?_
 have st0 : St h w h w [] := St.start hs
 have s_f_b := s_f.le
 refine zd<|O<|Y X X (r_asL X)<|U<|M<|zd<|zd<|O<|Y X X (zy (v := s_v) X) ?_
 obtain ⟨nb1, hn2, hn2_r⟩ := Sl.nilb (P := Tryz.prog) s_f
 refine Y X X (hn2_r Tryz.underlying26 X X)<|U<|M ?_
 refine zt rfl (fun c3 => ?_) (fun c3 => ?_)
 ·
  refine zd<|O<|Y X X (r_asL X)<|U<|M<|zA<|zk<|zi Tryz.results64 ?_
  have st4 := st0.snoc
  have f5 := OSl.nil LDecision 56 h
  refine ⟨h, _, _, rfl, Le.refl _, st4, OSl.to f5 ?_⟩
  simp_all
 ·
  refine zz<|M<|zd<|O<|OpsL.sliceE (L := LDecision) st0 X ⟨_, Tryz.sizeOf56⟩ Tryz.underlying26 ?_
  intro v6 o7 w8 f9 st10
  refine Y X X (zy (v := s_v) X) ?_
  refine zP (k := 0) (nb := 88) st10 f9 rfl s_f rfl rfl rfl Tryz.underlying26 Tryz.info56 rfl rfl rfl (by decide) rfl t_om t_om ?_
  intro v11 o12 w13 _ e14 f15 st16
  subst e14
  refine Y X X (zD (v := v11) X)<|U<|M<|zA<|zi Tryz.results64 ?_
  refine ⟨h, _, _, rfl, Le.refl _, st16, OSl.to f15 ?_⟩
  simp
set_option maxRecDepth 4000 in
theorem c_slices_Clone_Lapi_Rule_api_Rule {h : Heap} {w : World} (hs : Sub h w) {s_v : Value} {s : (List Rule)} (s_f : Sl LRule h s_v s) (hl : s.length * 40 ≤ 140737488355328) : Calls Tryz.prog 68 #[s_v] w (fun e_ w' => ∃ h' res_ o_, e_ = .returned res_ ∧ Le h h' ∧ St h w h' w' [o_] ∧ OSl LRule 70 h' res_ (s) o_) := by
 refine zM (n := 8) (args := [s_v]) Tryz.func68 X X X ?_
 have st0 : St h w h w [] := St.start hs
 have s_f_b := s_f.le
 refine zd<|O<|Y X X (r_asL X)<|U<|M<|zd<|zd<|O<|Y X X (zy (v := s_v) X) ?_
 obtain ⟨nb1, hn2, hn2_r⟩ := Sl.nilb (P := Tryz.prog) s_f
 refine Y X X (hn2_r Tryz.underlying25 X X)<|U<|M ?_
 refine zt rfl (fun c3 => ?_) (fun c3 => ?_)
 ·
  refine zd<|O<|Y X X (r_asL X)<|U<|M<|zA<|zk<|zi Tryz.results68 ?_
  have st4 := st0.snoc
  have f5 := OSl.nil LRule 70 h
  refine ⟨h, _, _, rfl, Le.refl _, st4, OSl.to f5 ?_⟩
  simp_all
 ·
  refine zz<|M<|zd<|O<|OpsL.sliceE (L := LRule) st0 X ⟨_, Tryz.sizeOf70⟩ Tryz.underlying25 ?_
  intro v6 o7 w8 f9 st10
  refine Y X X (zy (v := s_v) X) ?_
  refine zP (k := 0) (nb := 40) st10 f9 rfl s_f rfl rfl rfl Tryz.underlying25 Tryz.info70 rfl rfl rfl (by decide) rfl t_om t_om ?_
  intro v11 o12 w13 _ e14 f15 st16
  subst e14
  refine Y X X (zD (v := v11) X)<|U<|M<|zA<|zi Tryz.results68 ?_
  refine ⟨h, _, _, rfl, Le.refl _, st16, OSl.to f15 ?_⟩
  simp
end Go.Pk

namespace Go.Pk
open Go Go.RowKit Go.Proofs
set_option maxRecDepth 4000 in
theorem c_stem_opened_1 {h : Heap} {w : World} (hs : Sub h w) {a : Decision} (a_l2 : 0 ≤ a.kind ∧ a.kind ≤ 255) (a_l3 : a.form.length ≤ 281474976710656) (a_l7 : a.to.stem.length ≤ 281474976710656) (a_l8 : 0 ≤ a.to.mark ∧ a.to.mark ≤ 255) {b : Decision} (b_l2 : 0 ≤ b.kind ∧ b.kind ≤ 255) (b_l3 : b.form.length ≤ 281474976710656) (b_l7 : b.to.stem.length ≤ 281474976710656) (b_l8 : 0 ≤ b.to.mark ∧ b.to.mark ≤ 255) (ha : 1 ≤ a.number ∧ a.number ≤ 999) (hb : 1 ≤ b.number ∧ b.number ≤ 999) : Calls Tryz.prog 106 #[.agg #[.int .i64 a.number, .int .u8 a.kind, strV a.form, .int .i64 a.at_.chapter, .int .i64 a.at_.line, .int .i64 a.at_.word, strV a.to.stem, .int .u8 a.to.mark, .int .i64 a.of_], .agg #[.int .i64 b.number, .int .u8 b.kind, strV b.form, .int .i64 b.at_.chapter, .int .i64 b.at_.line, .int .i64 b.at_.word, strV b.to.stem, .int .u8 b.to.mark, .int .i64 b.of_]] w (Rets h w (fun _ _ res_ => res_ = .int .i64 (b.number - a.number))) := by
 refine zM (n := 10) (args := [.agg #[.int .i64 a.number, .int .u8 a.kind, strV a.form, .int .i64 a.at_.chapter, .int .i64 a.at_.line, .int .i64 a.at_.word, strV a.to.stem, .int .u8 a.to.mark, .int .i64 a.of_], .agg #[.int .i64 b.number, .int .u8 b.kind, strV b.form, .int .i64 b.at_.chapter, .int .i64 b.at_.line, .int .i64 b.at_.word, strV b.to.stem, .int .u8 b.to.mark, .int .i64 b.of_]]) Tryz.func106 X X X ?_
 have st0 : St h w h w [] := St.start hs
 refine zd<|O<|zr st0 (cs := [.int .i64 (a.number), .int .u8 (a.kind), strV (a.form), .int .i64 (a.at_.chapter), .int .i64 (a.at_.line), .int .i64 (a.at_.word), strV (a.to.stem), .int .u8 (a.to.mark), .int .i64 (a.of_)]) X X X ?_
 intro b1 w2 h3 le4 hc5 st6
 refine zr st6 (cs := [.int .i64 (b.number), .int .u8 (b.kind), strV (b.form), .int .i64 (b.at_.chapter), .int .i64 (b.at_.line), .int .i64 (b.at_.word), strV (b.to.stem), .int .u8 (b.to.mark), .int .i64 (b.of_)]) X X X ?_
 intro b7 w8 h9 le10 hc11 st12
 refine Y X X (zx X)<|U<|M<|zd<|O<|Y X X (zc X Tryz.underlying56 X Tryz.sizeOf3 X)<|Y X X (zb (j := 0) st12.sub hc11 X X X Tryz.isAgg3)<|Y X X (zc X Tryz.underlying56 X Tryz.sizeOf3 X)<|Y X X (zb (j := 0) st12.sub (hc5.up le10) X X X Tryz.isAgg3)<|Y X X (r_sub X X t_om)<|Y X X (zx X)<|U<|M<|zA<|zi Tryz.results106 ?_
 refine ⟨h9, _, rfl, st12.done, ?_⟩
 refine zW ?_
 rfl
set_option maxRecDepth 4000 in
theorem c_stem_opened {h : Heap} {w : World} (hs : Sub h w) {t : Text} {t_v0 : Value} (t_f0 : Sl LChapter h t_v0 t.chapters) {x : Lexicon} {x_v0 : Value} (x_f0 : Sl LRule h x_v0 x.rules) {x_v1 : Value} (x_f1 : Sl LDecision h x_v1 x.decisions) (hx : OkD x) (hl : x.decisions.length ≤ 25) : Calls Tryz.prog 66 #[.agg #[t_v0], .agg #[x_v0, x_v1]] w (Rets h w (fun h' _ res_ => ∃ u0, res_ = u0 ∧ Box LOffice h' true (Office.mk x t (standM x)) u0)) := by
 refine zM (n := 67) (args := [.agg #[t_v0], .agg #[x_v0, x_v1]]) Tryz.func66 X X X ?_
 have st0 : St h w h w [] := St.start hs
 have t_f0_b := t_f0.le
 have x_f0_b := x_f0.le
 have x_f1_b := x_f1.le
 refine zd<|O<|zr st0 (cs := [t_v0]) X X X ?_
 intro b1 w2 h3 le4 hc5 st6
 refine zr st6 (cs := [x_v0, x_v1]) X X X ?_
 intro b7 w8 h9 le10 hc11 st12
 refine Y X X (zD X)<|U<|M<|zd<|O<|Y X X (zf st12.sub hc11 X Tryz.isAgg28 Tryz.sizeOf28 X)<|Y X X (zf st12.sub (hc5.up le10) X Tryz.isAgg24 Tryz.sizeOf24 X)<|OpsL.makeMap (κ := Int) (υ := Decision) (ek := (fun n : Int => .int .i64 n)) (eu := (fun x : Decision => .agg [.int .i64 x.number, .int .u8 x.kind, strV x.form, .int .i64 x.at_.chapter, .int .i64 x.at_.line, .int .i64 x.at_.word, strV x.to.stem, .int .u8 x.to.mark, .int .i64 x.of_].toArray)) st12 X ?_
 intro v13 o14 w15 f16 st17
 obtain ⟨mb18, rfl⟩ := f16.form
 have nd19 : (([] : List (Int × Decision)).map (·.1)).Nodup := by simp
 refine Y rfl rfl (r_build (cs := [x_v0, x_v1, t_v0, (.map (some mb18))]) (by obtain ⟨_, _, rfl⟩ := Sl.form x_f0; obtain ⟨_, _, rfl⟩ := Sl.form x_f1; obtain ⟨_, _, rfl⟩ := Sl.form t_f0; kernel_rfl)) ?_
 refine zr st17 (cs := [x_v0, x_v1, t_v0, (.map (some mb18))]) X X X ?_
 intro b20 w21 h22 le23 hc24 st25
 refine Y X X (r_asP X)<|U<|M<|zd<|O<|Y X X (zc X Tryz.underlying28 X Tryz.sizeOf26 X)<|Y X X (zb (j := 1) st25.sub (hc11.up le23) X X X Tryz.isAgg26) ?_
 refine zad rfl rfl (zaj rfl Tryz.call64 rfl) ((zau st25.sub (x_f1.up ((le4.trans le10).trans le23)) (by omega)).mono ?_)
 rintro _ w27 ⟨h28, v26, o31, rfl, le29, s33, f32⟩
 refine ⟨_, rfl, ?_⟩
 have st30 := st25.call s33
 refine Y X X (zD (v := v26) X)<|U<|M<|zd<|O<|Y X X (zy (v := v26) X) ?_
 have con := sortFunc (L := LDecision) (T := 56) Tryz.sort_api_Decision Tryz.isAgg56 Tryz.sizeOf56 (by decide) (fun x : Decision => [.int .i64 x.number, .int .u8 x.kind, strV x.form, .int .i64 x.at_.chapter, .int .i64 x.at_.line, .int .i64 x.at_.word, strV x.to.stem, .int .u8 x.to.mark, .int .i64 x.of_]) (by rintro _ _ _ ⟨rfl, _⟩; rfl) (fun a b : Decision => b.number - a.number) (swo_desc _) (g := 106) (caps := []) (i := 1) st30 f32 rfl (by omega) Tryz.call106 ?_
 rotate_left
 ·intro a_ ha_ b_ hb_ w_ hs_
  obtain ⟨_, rfl, p0, p1, p2, p3⟩ := OSl.memR f32 ha_
  obtain ⟨_, rfl, q0, q1, q2, q3⟩ := OSl.memR f32 hb_
  simp only [big] at *
  exact c_stem_opened_1 hs_ (a := a_) p0 p1 p2 p3 (b := b_) q0 q1 q2 q3 (by have q := (hx.2 a_ ha_); omega) (by have q := (hx.2 b_ hb_); omega)
 refine zad rfl rfl (zaj rfl Tryz.call69 rfl) (con.mono ?_)
 rintro _ w34 ⟨rfl, ys35, o36, _, e37, hp38, hw39, f40, st41⟩
 subst e37
 refine ⟨_, rfl, ?_⟩
 clear con
 have hdl : (downD x).length = x.decisions.length := (downD_perm x).length_eq
 have f42 := OSl.to f40 (show ys35 = (downD x) from downD_eq hp38 hw39 hx.1)
 obtain ⟨h43, le44, f45, st46⟩ := OSl.freeze (k := 1) st41 f42 rfl t_om
 refine U<|M<|zd<|zd<|O<|Y X X (zy (v := v26) X)<|Y X X (zag f45 X Tryz.underlying26)<|Y X X (zo X)<|U<|M<|zF ?_
 refine zX [8, 25, 26, 27, 28, 29, 30, 31, 32, 33, 34, 35, 36] (G := Nat × List (Nat × Obj) × Heap) (fun ⟨k, o_15, h47⟩ => [(25, .int .i64 (k : Int))]) (fun ⟨k, o_15, h47⟩ w' => Le h43 h47 ∧ St h w h47 w' [o_15, []] ∧ (OM (fun n : Int => .int .i64 n) (fun x : Decision => .agg [.int .i64 x.number, .int .u8 x.kind, strV x.form, .int .i64 x.at_.chapter, .int .i64 x.at_.line, .int .i64 x.at_.word, strV x.to.stem, .int .u8 x.to.mark, .int .i64 x.of_].toArray) (((downD x).take k).map pairD) o_15 (.map (some mb18))) ∧ (((((downD x).take k).map pairD).map (·.1)).Nodup) ∧ (k ≤ (downD x).length)) (fun ⟨k, o_15, h47⟩ => (downD x).length - k) ⟨0, o14, h43⟩ ⟨rfl, trivial⟩ ⟨Le.refl _, st46, (by have q := f16; simpa using q), (by have q := nd19; simp), zak⟩ ?_
 rintro ⟨k, o_15, h47⟩ _ w50 ⟨le48, st49, hM_15, hN_15, hk⟩
 refine zd<|O<|Y X X (zal X X)<|U<|M<|zd ?_
 refine zt rfl (fun c51 => ?_) (fun c51 => ?_)
 ·
  replace c51 := of_decide_eq_true c51
  refine zz<|M<|zd<|zF<|zd<|O ?_
  have hd : ∃ y_, ((downD x))[k]? = some y_ := ⟨_, List.getElem?_eq_getElem (by omega)⟩
  obtain ⟨d, hd⟩ := hd
  obtain ⟨b52, o53, _, he55, hc54, hr_d⟩ := Sl.elem (f45.up le48) hd
  obtain ⟨rfl, lu56, ls57, ls58, lu59⟩ := hr_d
  simp only [big] at ls57
  simp only [big] at ls58
  refine Y X X (zp he55 X X (hk := X) (hu := Tryz.underlying26) (hz := Tryz.sizeOf56))<|Y X X (zf st49.sub hc54 X Tryz.isAgg56 Tryz.sizeOf56 X)<|zO st49 Tryz.zeroValue56 X X ?_
  intro b60 w61 st62
  refine zB st62 (k := 2) X X X (zg X (zg X (zg X (zg X (zg X (zg X (zg X (zg X (zg X zU))))))))) Tryz.sizeOf56 X X X ?_
  intro w63 st64
  obtain ⟨h65, le66, hb67, st69⟩ := st64.freeze (k := 2) rfl
  have hc68 := Cells.of hb67
  refine U<|M<|zaa (er := ([], [], [], [], 0)) (dsts := [29, 30, 31, 32, 33, 34, 35]) st69 Tryz.mixed<|zh 0 [] X t_kr t_kr X X (fun hD wD τD hL hS hO  => (r_mvP X))<|zh 1 [0] X t_kr t_kr X X (fun hD wD τD hL hS hO _ _ => (r_nil_check X))<|zh 2 [0] X t_kr t_kr X X (fun hD wD τD hL hS hO _ _ => (zc X Tryz.underlying103 X Tryz.sizeOf101 X))<|zh 3 [0] X t_kr t_kr X X (fun hD wD τD hL hS hO _ _ => (zb (j := 3) (hL.sub hS) (hc24.up (((le29.trans le44).trans le48).trans le66)) X X X Tryz.isAgg101))<|zh 4 [] X t_kr t_kr X X (fun hD wD τD hL hS hO  => (zc X Tryz.underlying56 X Tryz.sizeOf3 X))<|zh 5 [0] X t_kr t_kr X X (fun hD wD τD hL hS hO _ _ => (zb (j := 0) (hL.sub hS) hc68 X X X Tryz.isAgg3))<|zh 6 [] X t_kr t_kr X X (fun hD wD τD hL hS hO  => (zf (hL.sub hS) hc68 X Tryz.isAgg56 Tryz.sizeOf56 X))<|zaf<|zan X X X X X X ⟨t_kr, X, t_kr, X, t_kr, X, X, t_kr, (zY X cx_nil)⟩ ?_
  intro hE71 w72 _ le73 st74 _ _ _ _ _ _ _ _ _ _ _ _ _ _
  refine OpsL.mapUpdate (i := 0) st74 hM_15 X hN_15 (key_int Tryz.underlying3) Tryz.underlying101 X (k := (d.number)) X (u := d) X ?_
  intro o75 w76 _ e77 f78 nd79 st80
  subst e77
  refine U ⟨undef, rfl, _, _, Le.refl _, st80, ?_⟩
  intro hE81 w82 _ le83 st84 _ _ _ _ _ _ _ _ _ _ _ _ _ _
  refine AllDeps.fin X<|zI<|M<|O<|Y X X (zah X X t_om)<|Y X X (zo X)<|U<|M ?_
  refine ⟨⟨k + 1, o75, hE81⟩, ⟨rfl, trivial⟩, ?_, ⟨(((le48.trans le66).trans le73).trans le83), st84.take 2, ?_, ?_, ?_⟩, ?_⟩
  ·exact zae
  ·have q := f78
   rw [map_fill (downD_nodup hx.1) hd] at q; exact q
  ·have q := nd79
   rw [map_fill (downD_nodup hx.1) hd] at q; exact q
  ·first | omega | (simp; omega)
  ·show (downD x).length - ((k + 1)) < (downD x).length - k
   omega
 ·
  replace c51 := of_decide_eq_false c51
  refine zab<|zn<|zn<|zT<|M<|zd<|zd<|O<|Y X X (zy (v := v26) X)<|Y X X (zag (f45.up le48) X Tryz.underlying26)<|Y X X (zo X)<|U<|M<|zF ?_
  refine zX [10, 11, 12, 39, 40, 41, 42, 43, 44, 45, 46, 47, 48, 49, 50, 51, 52, 53, 54, 55, 56, 57, 58, 59, 60, 61, 62, 63, 64, 65] (G := Nat × List (Nat × Obj) × Heap) (fun ⟨k, o_15, h86⟩ => [(39, .int .i64 (k : Int))]) (fun ⟨k, o_15, h86⟩ w' => Le h47 h86 ∧ St h w h86 w' [o_15, []] ∧ (OM (fun n : Int => .int .i64 n) (fun x : Decision => .agg [.int .i64 x.number, .int .u8 x.kind, strV x.form, .int .i64 x.at_.chapter, .int .i64 x.at_.line, .int .i64 x.at_.word, strV x.to.stem, .int .u8 x.to.mark, .int .i64 x.of_].toArray) (((downD x).filter (leftK x k)).map pairD) o_15 (.map (some mb18))) ∧ (((((downD x).filter (leftK x k)).map pairD).map (·.1)).Nodup) ∧ (k ≤ (downD x).length)) (fun ⟨k, o_15, h86⟩ => (downD x).length - k) ⟨0, o_15, h47⟩ ⟨rfl, trivial⟩ ⟨Le.refl _, st49, (by have q := hM_15; rw [leftK_zero]; rw [List.take_of_length_le (by omega)] at q; exact q), (by have q := hN_15; rw [leftK_zero]; rw [List.take_of_length_le (by omega)] at q; exact q), zak⟩ ?_
  rintro ⟨k, o_15, h86⟩ _ w89 ⟨le87, st88, hM_15, hN_15, hk⟩
  refine zd<|O<|Y X X (zal X X)<|U<|M<|zd ?_
  refine zt rfl (fun c90 => ?_) (fun c90 => ?_)
  ·
   replace c90 := of_decide_eq_true c90
   refine zz<|M<|zd<|zF<|zd<|O ?_
   have hd : ∃ y_, ((downD x))[k]? = some y_ := ⟨_, List.getElem?_eq_getElem (by omega)⟩
   obtain ⟨d, hd⟩ := hd
   obtain ⟨b91, o92, _, he94, hc93, hr_d⟩ := Sl.elem (f45.up (le48.trans le87)) hd
   obtain ⟨rfl, lu95, ls96, ls97, lu98⟩ := hr_d
   simp only [big] at ls96
   simp only [big] at ls97
   refine Y X X (zp he94 X X (hk := X) (hu := Tryz.underlying26) (hz := Tryz.sizeOf56))<|Y X X (zf st88.sub hc93 X Tryz.isAgg56 Tryz.sizeOf56 X)<|zO st88 Tryz.zeroValue56 X X ?_
   intro b99 w100 st101
   refine zB st101 (k := 2) X X X (zg X (zg X (zg X (zg X (zg X (zg X (zg X (zg X (zg X zU))))))))) Tryz.sizeOf56 X X X ?_
   intro w102 st103
   obtain ⟨h104, le105, hb106, st108⟩ := st103.freeze (k := 2) rfl
   have hc107 := Cells.of hb106
   refine U<|M<|zd<|zaa (er := ([6], [], [], [], 0)) (dsts := [44, 45, 46, 47, 48, 49, 50, 43, 51, 52, 11, 12]) st108 Tryz.mixed<|zh 0 [] X t_kr t_kr X X (fun hD wD τD hL hS hO  => (r_mvP X))<|zh 1 [0] X t_kr t_kr X X (fun hD wD τD hL hS hO _ _ => (r_nil_check X))<|zh 2 [0] X t_kr t_kr X X (fun hD wD τD hL hS hO _ _ => (zc X Tryz.underlying103 X Tryz.sizeOf101 X))<|zh 3 [0] X t_kr t_kr X X (fun hD wD τD hL hS hO _ _ => (zb (j := 3) (hL.sub hS) (hc24.up ((((le29.trans le44).trans le48).trans le87).trans le105)) X X X Tryz.isAgg101))<|zh 4 [] X t_kr t_kr X X (fun hD wD τD hL hS hO  => (zc X Tryz.underlying56 X Tryz.sizeOf3 X))<|zh 5 [0] X t_kr t_kr X X (fun hD wD τD hL hS hO _ _ => (zb (j := 0) (hL.sub hS) hc107 X X X Tryz.isAgg3))<|zh 6 [2, 0] X t_kr t_kr X X (fun hD wD τD hL hS hO _ _ _ _ => (r_look_ok (k := (d.number)) (zu := zDecision) (key_int Tryz.underlying3) Tryz.underlying101 hM_15 ((hO X).ent (k := 0) X) Tryz.zeroValue56 X X X))<|zh 7 [0] X t_kr t_kr X X (fun hD wD τD hL hS hO _ _ => (r_mvT X))<|zh 8 [0] X t_kr t_kr X X (fun hD wD τD hL hS hO _ _ => (zH (v := (.agg (List.toArray _))) X X))<|zh 9 [1] X t_kr t_kr X X (fun hD wD τD hL hS hO _ _ => (zH (v := (.bool _)) X X))<|Drw.al Tryz.zeroValue56 X<|zaf<|zh 12 [11, 10, 9, 8, 7, 6, 5, 4, 3, 2, 1, 0] X t_kr t_kr X X (fun hD wD τD hL hS hO _ _ _ _ _ _ _ _ _ _ _ _ _ _ _ _ _ _ _ _ => (zJ X))<|zan X X X X X X ⟨t_kr, X, t_kr, X, t_kr, X, X, t_kr, (zY X cx_nil)⟩ ?_
   intro b109
   intro hE111 w112 _ le113 st114 _ _ _ _ _ _ _ _ _ _ _ _ _ _ _ _ _ _
   refine zB st114 (k := 3) X X X (zg X (zg X (zg X (zg X (zg X (zg X (zg X (zg X (zg X zU))))))))) Tryz.sizeOf56 X X X ?_
   intro w115 st116
   obtain ⟨h117, le118, hb119, st121⟩ := st116.freeze (k := 3) rfl
   have hc120 := Cells.of hb119
   refine U ⟨undef, rfl, _, _, le118, st121, ?_⟩
   intro hE122 w123 _ le124 st125 _ _ _ _ _ _ _ _ _ _ _ _ _ _ _ _ _ _ _ _ _ _
   refine AllDeps.fin X<|M<|zd<|O<|Y X X (zN X)<|Y X X (zN X) ?_
   refine zG (d := 54) rfl (fun g127 => ?_) (fun g127 => ?_)
   ·
    refine za X X (d := 54) X<|Y X X (zc X Tryz.underlying56 X Tryz.sizeOf5 X)<|za X X (d := 54) X<|Y X X (zb (j := 1) st125.sub (hc107.up ((le113.trans le118).trans le124)) X X X Tryz.isAgg5)<|za X X (d := 54) X<|Y X X (r_eql X X)<|Y X X (zK (v := (.bool _)) X X)<|U<|M ?_
    refine zt rfl (fun c128 => ?_) (fun c128 => ?_)
    ·
     replace c128 := of_decide_eq_true c128
     refine zaa (er := ([], [], [], [], 0)) (dsts := [59, 60, 61, 62, 63, 64]) st125 Tryz.mixed<|zh 0 [] X t_kr t_kr X X (fun hD wD τD hL hS hO  => (r_mvP X))<|zh 1 [0] X t_kr t_kr X X (fun hD wD τD hL hS hO _ _ => (r_nil_check X))<|zh 2 [0] X t_kr t_kr X X (fun hD wD τD hL hS hO _ _ => (zc X Tryz.underlying103 X Tryz.sizeOf101 X))<|zh 3 [0] X t_kr t_kr X X (fun hD wD τD hL hS hO _ _ => (zb (j := 3) (hL.sub hS) (hc24.up (((((((le29.trans le44).trans le48).trans le87).trans le105).trans le113).trans le118).trans le124)) X X X Tryz.isAgg101))<|zh 4 [] X t_kr t_kr X X (fun hD wD τD hL hS hO  => (zc X Tryz.underlying56 X Tryz.sizeOf3 X))<|zh 5 [0] X t_kr t_kr X X (fun hD wD τD hL hS hO _ _ => (zb (j := 8) (hL.sub hS) (hc107.up ((le113.trans le118).trans le124)) X X X Tryz.isAgg3))<|zaf<|zan X X X X X X ⟨t_kr, X, t_kr, X, t_kr, X, X, t_kr, (zY X cx_nil)⟩ ?_
     intro hE130 w131 _ le132 st133 _ _ _ _
     refine OpsL.mapDelete (i := 0) st133 hM_15 X hN_15 (key_int Tryz.underlying3) Tryz.underlying101 X (k := (d.of_)) X ?_
     intro o134 w135 _ e136 f137 nd138 st139
     subst e136
     refine U ⟨undef, rfl, _, _, Le.refl _, st139, ?_⟩
     intro hE140 w141 _ le142 st143 _ _ _ _ _ _ _ _ _ _ _ _
     refine AllDeps.fin X<|zI<|M<|O<|Y X X (zah X X t_om)<|Y X X (zo X)<|U<|M ?_
     refine ⟨⟨k + 1, o134, hE140⟩, ⟨rfl, trivial⟩, ?_, ⟨((((((le87.trans le105).trans le113).trans le118).trans le124).trans le132).trans le142), st143.take 2, ?_, ?_, ?_⟩, ?_⟩
     ·exact zae
     ·have q := f137
      rw [map_void hd ⟨c128, (look_left hx hd).symm.trans g127⟩] at q; exact q
     ·have q := nd138
      rw [map_void hd ⟨c128, (look_left hx hd).symm.trans g127⟩] at q; exact q
     ·first | omega | (simp; omega)
     ·show (downD x).length - ((k + 1)) < (downD x).length - k
      omega
    ·
     replace c128 := of_decide_eq_false c128
     refine zz<|zI<|M<|O<|Y X X (zah X X t_om)<|Y X X (zo X)<|U<|M ?_
     refine ⟨⟨k + 1, o_15, hE122⟩, ⟨rfl, trivial⟩, ?_, ⟨((((le87.trans le105).trans le113).trans le118).trans le124), st125.take 2, ?_, ?_, ?_⟩, ?_⟩
     ·exact zae
     ·have q := hM_15
      rw [map_stay hd (by rintro ⟨e1, _⟩; exact c128 e1)] at q; exact q
     ·have q := hN_15
      rw [map_stay hd (by rintro ⟨e1, _⟩; exact c128 e1)] at q; exact q
     ·first | omega | (simp; omega)
     ·show (downD x).length - ((k + 1)) < (downD x).length - k
      omega
   ·
    refine E X X (d := 54) X X X<|E X X (d := 54) X X X<|E X X (d := 54) X X X<|Y X X (zC (v := (.bool _)) X X)<|U<|M ?_
    refine zt rfl (fun c145 => ?_) (fun c145 => ?_)
    ·
     cases c145
    ·
     refine zz<|zI<|M<|O<|Y X X (zah X X t_om)<|Y X X (zo X)<|U<|M ?_
     refine ⟨⟨k + 1, o_15, hE122⟩, ⟨rfl, trivial⟩, ?_, ⟨((((le87.trans le105).trans le113).trans le118).trans le124), st125.take 2, ?_, ?_, ?_⟩, ?_⟩
     ·exact zae
     ·have q := hM_15
      rw [map_stay hd (by rintro ⟨_, e1⟩; rw [← look_left hx hd] at e1; rw [e1] at g127; cases g127)] at q; exact q
     ·have q := hN_15
      rw [map_stay hd (by rintro ⟨_, e1⟩; rw [← look_left hx hd] at e1; rw [e1] at g127; cases g127)] at q; exact q
     ·first | omega | (simp; omega)
     ·show (downD x).length - ((k + 1)) < (downD x).length - k
      omega
  ·
   replace c90 := of_decide_eq_false c90
   refine zab<|zn<|zn<|zT<|M<|zd<|O<|Y X X (r_mvP X)<|Y X X (r_asP X)<|U<|M<|zA<|zi Tryz.results66 ?_
   obtain ⟨h146, le147, f148, st149⟩ := OM.freeze (k := 0) st88 hM_15 rfl
   have f148_r := f148.to (show _ = (standM x) by rw [← leftK_end hx]; first | rfl | (congr 3; omega))
   have f148_l : FML (fun n : Int => .int .i64 n) (fun x : Decision => [.int .i64 x.number, .int .u8 x.kind, strV x.form, .int .i64 x.at_.chapter, .int .i64 x.at_.line, .int .i64 x.at_.word, strV x.to.stem, .int .u8 x.to.mark, .int .i64 x.of_]) LDecision h146 (standM x) (.map (some mb18)) := ⟨f148_r, by intro p hp_; have q := (standM_mem hp_).1; obtain ⟨vs_, r_⟩ := x_f1.memR q; obtain ⟨rfl, q1⟩ := r_; exact ⟨rfl, q1⟩⟩
   refine ⟨h146, _, rfl, st149.done, ?_⟩
   refine ⟨_, rfl, Box.some ?_ (hc24.up ((((le29.trans le44).trans le48).trans le87).trans le147)) ⟨_, _, _, _, rfl, (x_f0.up (((((((le4.trans le10).trans le23).trans le29).trans le44).trans le48).trans le87).trans le147)), (x_f1.up (((((((le4.trans le10).trans le23).trans le29).trans le44).trans le48).trans le87).trans le147)), (t_f0.up (((((((le4.trans le10).trans le23).trans le29).trans le44).trans le48).trans le87).trans le147)), f148_l⟩⟩
   rfl
end Go.Pk

namespace Go.Pk
open Go Go.RowKit Go.Proofs
set_option maxRecDepth 4000 in
theorem c_stem_open {h : Heap} {w : World} (hs : Sub h w) {t : Text} {t_v0 : Value} (t_f0 : Sl LChapter h t_v0 t.chapters) {x : Lexicon} {x_v0 : Value} (x_f0 : Sl LRule h x_v0 x.rules) {x_v1 : Value} (x_f1 : Sl LDecision h x_v1 x.decisions) (K0 : Cells h 0 0 Tryz.glob0) : Calls Tryz.prog 40 #[.agg #[t_v0], .agg #[x_v0, x_v1]] w (Rets h w (fun h' _ res_ => ∃ u0, res_ = .tuple #[u0, .int .i64 (checkN t x)] ∧ Box LOffice h' (decide (checkN t x = 0)) (Office.mk x t (standM x)) u0)) := by
 refine zM (n := 16) (args := [.agg #[t_v0], .agg #[x_v0, x_v1]]) Tryz.func40 X X X ?_
 have st0 : St h w h w [] := St.start hs
 have t_f0_b := t_f0.le
 have x_f0_b := x_f0.le
 have x_f1_b := x_f1.le
 refine zd<|O<|zr st0 (cs := [t_v0]) X X X ?_
 intro b1 w2 h3 le4 hc5 st6
 refine zr st6 (cs := [x_v0, x_v1]) X X X ?_
 intro b7 w8 h9 le10 hc11 st12
 refine Y X X (zD X)<|Y X X (zx X)<|U<|M<|zd<|zd<|O<|Y X X (zf st12.sub (hc5.up le10) X Tryz.isAgg24 Tryz.sizeOf24 X)<|Y X X (zf st12.sub hc11 X Tryz.isAgg28 Tryz.sizeOf28 X)<|zm st12 X X X Tryz.call14 X (c_stem_Check st12.sub (t := t) (t_f0.up (le4.trans le10)) (x := x) (x_f0.up (le4.trans le10)) (x_f1.up (le4.trans le10)) (K0.up (le4.trans le10))) ?_
 intro r13 w14 h15 le16 st17 q18
 obtain rfl := q18
 refine Y X X (zx X)<|U<|M<|zd<|O<|Y X X (zo X)<|Y X X (r_neq X X)<|U<|M ?_
 refine zt rfl (fun c19 => ?_) (fun c19 => ?_)
 ·
  replace c19 := of_decide_eq_true c19
  refine zd<|O<|Y X X (zo X)<|Y X X (zD X)<|Y X X (zx X)<|U<|M<|zA<|zk<|zS Tryz.results40 ?_
  refine ⟨h15, _, rfl, st17.done, ?_⟩
  refine ⟨_, tup2 rfl (zW ?_), Box.nil ?_⟩
  ·rfl
  ·simpa using c19
 ·
  replace c19 := of_decide_eq_false c19
  refine zz<|M<|zd<|O<|Y X X (zf st17.sub (hc5.up (le10.trans le16)) X Tryz.isAgg24 Tryz.sizeOf24 X)<|Y X X (zf st17.sub (hc11.up le16) X Tryz.isAgg28 Tryz.sizeOf28 X) ?_
  refine zm st17 rfl rfl rfl Tryz.call66 rfl (c_stem_opened st17.sub (t := t) (t_f0.up ((le4.trans le10).trans le16)) (x := x) (x_f0.up ((le4.trans le10).trans le16)) (x_f1.up ((le4.trans le10).trans le16)) (by exact okD_of (by simpa using c19)) (by have q := lexicon_20 (show checkN t x = 0 by simpa using c19); omega)) ?_
  intro r20 w21 h22 le23 st24 q25
  obtain ⟨v26, rfl, f27⟩ := q25
  obtain ⟨b28, vs29, rfl, hc30, hr31⟩ := f27
  obtain ⟨v32, v34, v36, v38, rfl, f33, f35, f37, lm39⟩ := hr31
  have f33_b := f33.le
  have f35_b := f35.le
  have f37_b := f37.le
  refine Y X X (r_asP X)<|Y X X (zx X)<|U<|M<|zA<|zS Tryz.results40 ?_
  refine ⟨h22, _, rfl, st24.done, ?_⟩
  refine ⟨_, tup2 rfl (zW ?_), Box.some ?_ hc30 ⟨_, _, _, _, rfl, f33, f35, f37, lm39⟩⟩
  ·exact (by simpa using c19 : checkN t x = 0).symm
  ·simpa using c19
end Go.Pk

namespace Go.Pk
open Go Go.RowKit Go.Proofs
set_option maxRecDepth 4000 in
theorem c_internal_stringslite_HasSuffix {h : Heap} {w : World} (hs : Sub h w) (s : Str) (s_le : s.length ≤ 281474976710656) (p : Str) (p_le : p.length ≤ 281474976710656) : Calls Tryz.prog 193 #[strV s, strV p] w (Rets h w (fun _ _ res_ => res_ = .bool (hasSuf s p))) := by
 refine zM (n := 21) (args := [strV s, strV p]) Tryz.func193 X X X ?_
 have st0 : St h w h w [] := St.start hs
 refine zd<|O<|Y X X (zJ X)<|U<|M<|zd<|O<|Y X X (r_mvS X)<|Y X X (zar X Tryz.underlying9)<|Y X X (r_mvS X)<|Y X X (zar X Tryz.underlying9)<|Y X X (r_geq X X)<|Y X X (zN X) ?_
 refine zG (d := 10) rfl (fun g1 => ?_) (fun g1 => ?_)
 ·
  replace g1 := of_decide_eq_true g1
  refine za X X (d := 10) X<|Y X X (r_mvS X)<|za X X (d := 10) X<|Y X X (r_mvS X)<|za X X (d := 10) X<|Y X X (zar X Tryz.underlying9)<|za X X (d := 10) X<|Y X X (r_mvS X)<|za X X (d := 10) X<|Y X X (zar X Tryz.underlying9)<|za X X (d := 10) X<|Y X X (r_sub X X t_om)<|za X X (d := 10) X ?_
  refine Y rfl rfl (r_slice_from rfl rfl (hk := (show _ = ((s.length - p.length : Nat) : Int) by omega)) (hle := by omega) (hu := Tryz.underlying9)) ?_
  refine za X X (d := 10) X<|Y X X (r_mvS X)<|za X X (d := 10) X<|Y X X (r_seql X X)<|Y X X (zK (v := (.bool _)) X X)<|Y X X (zJ X)<|U<|M<|zA<|zi Tryz.results193 ?_
  refine ⟨h, _, rfl, st0.done, ?_⟩
  refine zw ?_
  first | (simp_all [hasSuf]; done) | (simp_all [hasSuf]; omega) | (simp_all [hasSuf]; intros; omega)
 ·
  replace g1 := of_decide_eq_false g1
  refine E X X (d := 10) X X X<|E X X (d := 10) X X X<|E X X (d := 10) X X X<|E X X (d := 10) X X X<|E X X (d := 10) X X X<|E X X (d := 10) X X X<|E X X (d := 10) X X X<|E X X (d := 10) X X X<|E X X (d := 10) X X X<|Y X X (zC (v := (.bool _)) X X)<|Y X X (zJ X)<|U<|M<|zA<|zi Tryz.results193 ?_
  refine ⟨h, _, rfl, st0.done, ?_⟩
  refine zw ?_
  first | (simp_all [hasSuf]; done) | (simp_all [hasSuf]; omega) | (simp_all [hasSuf]; intros; omega)
set_option maxRecDepth 4000 in
theorem c_internal_stringslite_CutSuffix {h : Heap} {w : World} (hs : Sub h w) (s : Str) (s_le : s.length ≤ 281474976710656) (p : Str) (p_le : p.length ≤ 281474976710656) : Calls Tryz.prog 171 #[strV s, strV p] w (Rets h w (fun _ _ res_ => res_ = .tuple #[strV ((if hasSuf s p then s.take (s.length - p.length) else s)), .bool (hasSuf s p)])) := by
 refine zM (n := 18) (args := [strV s, strV p]) Tryz.func171 X X X ?_
 have st0 : St h w h w [] := St.start hs
 refine zd<|O<|Y X X (r_asS X)<|Y X X (zJ X)<|U<|M<|zd<|zd<|O<|Y X X (r_mvS X)<|Y X X (r_mvS X)<|zm st0 X X X Tryz.call193 X (c_internal_stringslite_HasSuffix st0.sub _ zZ _ zZ) ?_
 intro r1 w2 h3 le4 st5 q6
 obtain rfl := q6
 refine Y X X (r_not X)<|U<|M ?_
 refine zt rfl (fun c7 => ?_) (fun c7 => ?_)
 ·
  refine zd<|O<|Y X X (r_mvS X)<|Y X X (r_asS X)<|Y X X (zJ X)<|U<|M<|zA<|zk<|zS Tryz.results171 ?_
  refine ⟨h3, _, rfl, st5.done, ?_⟩
  refine tup2 (str_eq ?_) (zw ?_)
  all_goals simp_all
 ·
  refine zz<|M<|zd ?_
  have hsl : p.length ≤ s.length := by
   have q := c7
   simp [hasSuf] at q
   exact q.1
  refine O<|Y X X (r_mvS X)<|Y X X (r_mvS X)<|Y X X (zar X Tryz.underlying9)<|Y X X (r_mvS X)<|Y X X (zar X Tryz.underlying9)<|Y X X (r_sub X X t_om) ?_
  refine Y rfl rfl (r_slice_to rfl rfl (hk := (show _ = ((s.length - p.length : Nat) : Int) by omega)) (hle := by omega) (hu := Tryz.underlying9)) ?_
  refine Y X X (r_asS X)<|Y X X (zJ X)<|U<|M<|zA<|zS Tryz.results171 ?_
  refine ⟨h3, _, rfl, st5.done, ?_⟩
  refine tup2 (str_eq ?_) (zw ?_)
  all_goals simp_all
set_option maxRecDepth 4000 in
theorem c_strings_CutSuffix {h : Heap} {w : World} (hs : Sub h w) (s : Str) (s_le : s.length ≤ 281474976710656) (p : Str) (p_le : p.length ≤ 281474976710656) : Calls Tryz.prog 118 #[strV s, strV p] w (Rets h w (fun _ _ res_ => res_ = .tuple #[strV ((if hasSuf s p then s.take (s.length - p.length) else s)), .bool (hasSuf s p)])) := by
 refine zM (n := 11) (args := [strV s, strV p]) Tryz.func118 X X X ?_
 have st0 : St h w h w [] := St.start hs
 refine zd<|O<|Y X X (r_asS X)<|Y X X (zJ X)<|U<|M<|zd<|O<|Y X X (r_mvS X)<|Y X X (r_mvS X)<|zm st0 X X X Tryz.call171 X (c_internal_stringslite_CutSuffix st0.sub _ zZ _ zZ) ?_
 intro r1 w2 h3 le4 st5 q6
 obtain rfl := q6
 refine Y X X (zH (v := (strV _)) X X)<|Y X X (zH (v := (.bool _)) X X)<|Y X X (r_asS X)<|Y X X (zJ X)<|U<|M<|zA<|zS Tryz.results118 ?_
 refine ⟨h3, _, rfl, st5.done, ?_⟩
 refine tup2 (str_eq ?_) (zw ?_)
 all_goals rfl
set_option maxRecDepth 4000 in
theorem c_stem_office_turns_1 {h0 h : Heap} {w0 w : World} {rest : Own} {left_b : Nat} {left : Int} {word_b : Nat} {word : Str} (word_le : word.length ≤ 281474976710656) {o_b : Nat} {o : Office} {o_v0 : Value} (o_f0 : Sl LRule h o_v0 o.lex.rules) {o_v1 : Value} (o_f1 : Sl LDecision h o_v1 o.lex.decisions) {o_v2 : Value} (o_f2 : Sl LChapter h o_v2 o.text.chapters) {o_v3 : Value} (o_f3 : FML (fun n : Int => .int .i64 n) (fun x : Decision => [.int .i64 x.number, .int .u8 x.kind, strV x.form, .int .i64 x.at_.chapter, .int .i64 x.at_.line, .int .i64 x.at_.word, strV x.to.stem, .int .u8 x.to.mark, .int .i64 x.of_]) LDecision h o.stands o_v3) (o_c : Cells h o_b 0 [o_v0, o_v1, o_v2, o_v3]) {o_bb : Nat} (o_cc : Cells h o_bb 0 [.pointer (some ⟨o_b, 0, none⟩)]) (hl : 0 ≤ left ∧ left ≤ 4) (hw12 : word.length ≤ 12) (st0 : St h0 w0 h w ([(left_b, .cells (List.toArray [.int .i64 left]) 3)] :: [(word_b, .cells (List.toArray [strV word]) 9)] :: rest)) : Calls Tryz.prog 117 #[.pointer (some ⟨left_b, 0, none⟩), .pointer (some ⟨word_b, 0, none⟩), .pointer (some ⟨o_bb, 0, none⟩)] w (fun e_ w' => ∃ h' res_ left' word', e_ = .returned res_ ∧ Le h h' ∧ St h0 w0 h' w' ([(left_b, .cells (List.toArray [.int .i64 left']) 3)] :: [(word_b, .cells (List.toArray [strV word']) 9)] :: rest) ∧ left' = turnL left ∧ word' = turnW o.lex.rules left word ∧ (res_ = .tuple #[strV (turnW o.lex.rules left word), .bool (turnB o.lex.rules left word)])) := by
 refine zM (n := 56) (args := [.pointer (some ⟨left_b, 0, none⟩), .pointer (some ⟨word_b, 0, none⟩), .pointer (some ⟨o_bb, 0, none⟩)]) Tryz.func117 X X X ?_
 have o_f0_b := o_f0.le
 have o_f1_b := o_f1.le
 have o_f2_b := o_f2.le
 refine zd<|O<|Y X X (r_asS X)<|Y X X (zJ X)<|U<|M<|W.scope<|zd<|zd<|O<|Y X X (zaq (st0.get (k := 0) X) X X Tryz.isAgg3)<|Y X X (r_eql X X)<|U<|M ?_
 refine zt rfl (fun c1 => ?_) (fun c1 => ?_)
 ·
  replace c1 := of_decide_eq_true c1
  refine zd<|O<|Y X X (zaq (st0.get (k := 1) X) X X Tryz.isAgg9)<|Y X X (r_asS X)<|Y X X (zJ X)<|U<|M<|zA<|zk<|NoGo.ret<|zS Tryz.results117 ?_
  refine ⟨h, _, _, _, rfl, Le.refl _, st0, ?_, ?_, ?_⟩
  ·simp_all [turnL]
  ·simp_all [turnW]
  refine tup2 (str_eq ?_) (zw ?_)
  ·simp_all [turnW]
  ·simp_all [turnB]
 ·
  replace c1 := of_decide_eq_false c1
  refine zz<|M<|zd<|O<|Y X X (zaq (st0.get (k := 0) X) X X Tryz.isAgg3)<|Y X X (r_sub X X t_om)<|zas st0 (k := 0) X X X X Tryz.sizeOf3 X X X ?_
  intro w2 st3
  refine U<|M<|zd<|W.label<|M<|zd<|zd<|O<|Y X X (zb (j := 0) st3.sub o_cc X X X Tryz.isAgg94)<|Y X X (r_nil_check X)<|Y X X (zc X Tryz.underlying103 X Tryz.sizeOf28 X)<|Y X X (zc X Tryz.underlying28 X Tryz.sizeOf25 X)<|Y X X (zb (j := 0) st3.sub o_c X X X Tryz.isAgg25)<|Y X X (zag o_f0 X Tryz.underlying25)<|Y X X (zo X)<|U<|M<|zF ?_
  refine zX [3, 4, 6, 7, 8, 20, 21, 22, 23, 24, 25, 26, 27, 28, 29, 30, 31, 32, 33, 34, 35, 36, 37, 38, 39, 40, 41, 42, 43, 44, 45, 46, 47, 48, 49, 50, 51, 52, 53, 54] (G := Nat × Heap) (fun ⟨i, h4⟩ => [(20, .int .i64 (i : Int))]) (fun ⟨i, h4⟩ w' => Le h h4 ∧ St h0 w0 h4 w' ([(left_b, .cells (List.toArray [.int .i64 (left - 1)]) 3)] :: [(word_b, .cells (List.toArray [strV word]) 9)] :: rest) ∧ (i ≤ o.lex.rules.length) ∧ ((o.lex.rules.take i).findSome? (made · word) = none)) (fun ⟨i, h4⟩ => o.lex.rules.length - i) ⟨0, h⟩ ⟨rfl, trivial⟩ ⟨Le.refl _, st3, zak, zak⟩ ?_
  rintro ⟨i, h4⟩ _ w7 ⟨le5, st6, hi, ht⟩
  refine zd<|O<|Y X X (zal X X)<|U<|M<|zd ?_
  refine zt rfl (fun c8 => ?_) (fun c8 => ?_)
  ·
   replace c8 := of_decide_eq_true c8
   refine zz<|M<|zd<|zF<|zd<|O ?_
   have hr : ∃ y_, (o.lex.rules)[i]? = some y_ := ⟨_, List.getElem?_eq_getElem (by omega)⟩
   obtain ⟨r, hr⟩ := hr
   obtain ⟨b9, o10, _, he12, hc11, hr_r⟩ := Sl.elem (o_f0.up le5) hr
   obtain ⟨rfl, ls13, ls14⟩ := hr_r
   simp only [big] at ls13
   simp only [big] at ls14
   refine Y X X (zp he12 X X (hk := X) (hu := Tryz.underlying25) (hz := Tryz.sizeOf70))<|Y X X (zf st6.sub hc11 X Tryz.isAgg70 Tryz.sizeOf70 X)<|OpsL.allocSt st6 Tryz.zeroValue70 X X X (us := [strV (r.cut), strV (r.put), .int .i64 (r.least)]) (fun _ => X) (zg X (zg X (zg X zU))) Tryz.sizeOf70 X ?_
   intro b15 w16 h17 le18 hc19 st20
   refine U<|M<|zd<|O<|Y X X (zaq (st20.get (k := 1) X) X X Tryz.isAgg9)<|Y X X (zc X Tryz.underlying70 X Tryz.sizeOf9 X)<|Y X X (zb (j := 0) st20.sub hc19 X X X Tryz.isAgg9)<|zm st20 X X X Tryz.call118 X (c_strings_CutSuffix st20.sub _ zZ _ zZ) ?_
   intro r21 w22 h23 le24 st25 q26
   obtain rfl := q26
   have hrl : (if hasSuf (word) (r.cut) then (word).take ((word).length - (r.cut).length) else (word)).length ≤ word.length := by split <;> simp
   refine Y X X (r_mvT X)<|Y X X (zH (v := (strV _)) X X)<|Y X X (zH (v := (.bool _)) X X)<|Y X X (r_asS X)<|Y X X (zJ X)<|U<|M<|zd<|zd<|O<|Y X X (zN X)<|Y X X (r_not X)<|Y X X (zN X) ?_
   refine zG (d := 33) rfl (fun g27 => ?_) (fun g27 => ?_)
   ·
    refine E X X (d := 33) X X X<|E X X (d := 33) X X X<|E X X (d := 33) X X X<|E X X (d := 33) X X X<|E X X (d := 33) X X X<|Y X X (zK (v := (.bool _)) X X)<|Y X X (zN X)<|E X X (d := 40) X X X<|E X X (d := 40) X X X<|E X X (d := 40) X X X<|E X X (d := 40) X X X<|E X X (d := 40) X X X<|E X X (d := 40) X X X<|E X X (d := 40) X X X<|Y X X (zK (v := (.bool _)) X X)<|U<|M ?_
    refine zt rfl (fun c28 => ?_) (fun c28 => ?_)
    ·
     refine zab<|zn<|zT<|M<|O<|Y X X (zah X X t_om)<|Y X X (zo X)<|U<|M ?_
     refine ⟨⟨i + 1, h23⟩, ⟨rfl, trivial⟩, ?_, ⟨((le5.trans le18).trans le24), st25, ?_, ?_⟩, ?_⟩
     ·exact zae
     ·first | omega | (simp; omega)
     ·exact turn_take ht hr (made_no (fun qh _ => by rw [qh] at g27; cases g27))
     ·show o.lex.rules.length - ((i + 1)) < o.lex.rules.length - i
      omega
    ·
     cases c28
   ·
    refine za X X (d := 33) X<|Y X X (r_mvS X)<|za X X (d := 33) X<|Y X X (zar X Tryz.underlying9)<|za X X (d := 33) X<|Y X X (zc X Tryz.underlying70 X Tryz.sizeOf3 X)<|za X X (d := 33) X<|Y X X (zb (j := 2) st25.sub (hc19.up le24) X X X Tryz.isAgg3)<|za X X (d := 33) X<|Y X X (zal X X)<|Y X X (zC (v := (.bool _)) X X)<|Y X X (zN X) ?_
    refine zG (d := 40) rfl (fun g29 => ?_) (fun g29 => ?_)
    ·
     replace g29 := of_decide_eq_true g29
     refine E X X (d := 40) X X X<|E X X (d := 40) X X X<|E X X (d := 40) X X X<|E X X (d := 40) X X X<|E X X (d := 40) X X X<|E X X (d := 40) X X X<|E X X (d := 40) X X X<|Y X X (zK (v := (.bool _)) X X)<|U<|M ?_
     refine zt rfl (fun c30 => ?_) (fun c30 => ?_)
     ·
      refine zab<|zn<|zT<|M<|O<|Y X X (zah X X t_om)<|Y X X (zo X)<|U<|M ?_
      refine ⟨⟨i + 1, h23⟩, ⟨rfl, trivial⟩, ?_, ⟨((le5.trans le18).trans le24), st25, ?_, ?_⟩, ?_⟩
      ·exact zae
      ·first | omega | (simp; omega)
      ·exact turn_take ht hr (made_no (fun qh q => by rw [if_pos qh] at g29; omega))
      ·show o.lex.rules.length - ((i + 1)) < o.lex.rules.length - i
       omega
     ·
      cases c30
    ·
     replace g29 := of_decide_eq_false g29
     refine za X X (d := 40) X<|Y X X (r_mvS X)<|za X X (d := 40) X<|Y X X (zar X Tryz.underlying9)<|za X X (d := 40) X<|Y X X (zc X Tryz.underlying70 X Tryz.sizeOf9 X)<|za X X (d := 40) X<|Y X X (zb (j := 1) st25.sub (hc19.up le24) X X X Tryz.isAgg9)<|za X X (d := 40) X<|Y X X (zar X Tryz.underlying9)<|za X X (d := 40) X<|Y X X (zah X X t_om)<|za X X (d := 40) X<|Y X X (r_gtr X X)<|Y X X (zC (v := (.bool _)) X X)<|U<|M ?_
     refine zt rfl (fun c31 => ?_) (fun c31 => ?_)
     ·
      replace c31 := of_decide_eq_true c31
      refine zab<|zn<|zT<|M<|O<|Y X X (zah X X t_om)<|Y X X (zo X)<|U<|M ?_
      refine ⟨⟨i + 1, h23⟩, ⟨rfl, trivial⟩, ?_, ⟨((le5.trans le18).trans le24), st25, ?_, ?_⟩, ?_⟩
      ·exact zae
      ·first | omega | (simp; omega)
      ·exact turn_take ht hr (made_no (fun qh q => by rw [if_pos qh] at c31; omega))
      ·show o.lex.rules.length - ((i + 1)) < o.lex.rules.length - i
       omega
     ·
      replace c31 := of_decide_eq_false c31
      refine zz<|M<|zd<|O<|Y X X (r_mvS X)<|Y X X (zc X Tryz.underlying70 X Tryz.sizeOf9 X)<|Y X X (zb (j := 1) st25.sub (hc19.up le24) X X X Tryz.isAgg9)<|Y X X (r_sadd X X t_om)<|zas st25 (k := 1) X X X X Tryz.sizeOf9 X X X ?_
      intro w32 st33
      refine U<|M<|zd<|O<|Y X X (zaq (st33.get (k := 1) X) X X Tryz.isAgg9)<|Y X X (r_asS X)<|Y X X (zJ X)<|U<|M<|zA<|zL<|zk<|zk<|zL<|zk<|NoGo.ret<|zS Tryz.results117 ?_
      have qh : hasSuf word r.cut = true := by simpa using g27
      have em := made_yes qh (by have q := g29; rw [if_pos qh] at q; omega) (by have q := c31; rw [if_pos qh] at q; omega)
      have es := stepOf_at ht hr em
      have hl0 : ¬ left = 0 := c1
      simp only [if_pos qh]
      refine ⟨h23, _, _, _, rfl, ((le5.trans le18).trans le24), st33, ?_, ?_, ?_⟩
      ·simp [turnL, hl0]
      ·simp [turnW, hl0, es, qh]
      refine tup2 (str_eq ?_) (zw ?_)
      ·simp [turnW, hl0, es]
      ·simp [turnB, hl0, es]
  ·
   replace c8 := of_decide_eq_false c8
   refine zab<|zn<|zn<|zT<|M<|zd<|O<|Y X X (zaq (st6.get (k := 1) X) X X Tryz.isAgg9)<|Y X X (r_asS X)<|Y X X (zJ X)<|U<|M<|zA<|NoGo.ret<|zS Tryz.results117 ?_
   have es := stepOf_none ht (by omega)
   have hl0 : ¬ left = 0 := c1
   refine ⟨h4, _, _, _, rfl, le5, st6, ?_, ?_, ?_⟩
   ·simp [turnL, hl0]
   ·simp [turnW, hl0, es]
   refine tup2 (str_eq ?_) (zw ?_)
   ·simp [turnW, hl0, es]
   ·simp [turnB, hl0, es]
end Go.Pk

namespace Go.Pk
open Go Go.RowKit Go.Proofs
set_option maxRecDepth 4000 in
theorem c_stem_office_turns {h : Heap} {w : World} (hs : Sub h w) {o_b : Nat} {o : Office} {o_v0 : Value} (o_f0 : Sl LRule h o_v0 o.lex.rules) {o_v1 : Value} (o_f1 : Sl LDecision h o_v1 o.lex.decisions) {o_v2 : Value} (o_f2 : Sl LChapter h o_v2 o.text.chapters) {o_v3 : Value} (o_f3 : FML (fun n : Int => .int .i64 n) (fun x : Decision => [.int .i64 x.number, .int .u8 x.kind, strV x.form, .int .i64 x.at_.chapter, .int .i64 x.at_.line, .int .i64 x.at_.word, strV x.to.stem, .int .u8 x.to.mark, .int .i64 x.of_]) LDecision h o.stands o_v3) (o_c : Cells h o_b 0 [o_v0, o_v1, o_v2, o_v3]) (word : Str) (word_le : word.length ≤ 281474976710656) : Calls Tryz.prog 83 #[.pointer (some ⟨o_b, 0, none⟩), strV word] w (fun e_ w' => ∃ h' bl bw bo, e_ = .returned (.func (.func 117) #[] #[.pointer (some ⟨bl, 0, none⟩), .pointer (some ⟨bw, 0, none⟩), .pointer (some ⟨bo, 0, none⟩)]) ∧ Le h h' ∧ St h w h' w' [[(bw, .cells [strV word].toArray 9)], [(bl, .cells [.int .i64 4].toArray 3)]] ∧ Cells h' bo 0 [.pointer (some ⟨o_b, 0, none⟩)]) := by
 refine zM (n := 7) (args := [.pointer (some ⟨o_b, 0, none⟩), strV word]) Tryz.func83 X X X ?_
 have st0 : St h w h w [] := St.start hs
 have o_f0_b := o_f0.le
 have o_f1_b := o_f1.le
 have o_f2_b := o_f2.le
 refine zd<|O<|zr st0 (cs := [.pointer (some ⟨o_b, 0, none⟩)]) X X X ?_
 intro b1 w2 h3 le4 hc5 st6
 refine OpsL.boxO st6 (cs := [strV word]) X X X ?_
 intro b7 w8 st9
 refine Y X X (zD X)<|U<|M<|zd<|O<|zO st9 Tryz.zeroValue3 X X ?_
 intro b10 w11 st12
 refine zas st12 (k := 1) X X X X Tryz.sizeOf3 X X X ?_
 intro w13 st14
 refine U<|M<|zd<|O<|Y X X (r_make_func X X)<|Y X X (r_asF X)<|U<|M<|zA<|zi Tryz.results83 ?_
 exact ⟨h3, _, _, _, rfl, le4, st14, hc5⟩
set_option maxRecDepth 4000 in
theorem c_stem_office_steps {h : Heap} {w : World} (hs : Sub h w) {o_b : Nat} {o : Office} {o_v0 : Value} (o_f0 : Sl LRule h o_v0 o.lex.rules) {o_v1 : Value} (o_f1 : Sl LDecision h o_v1 o.lex.decisions) {o_v2 : Value} (o_f2 : Sl LChapter h o_v2 o.text.chapters) {o_v3 : Value} (o_f3 : FML (fun n : Int => .int .i64 n) (fun x : Decision => [.int .i64 x.number, .int .u8 x.kind, strV x.form, .int .i64 x.at_.chapter, .int .i64 x.at_.line, .int .i64 x.at_.word, strV x.to.stem, .int .u8 x.to.mark, .int .i64 x.of_]) LDecision h o.stands o_v3) (o_c : Cells h o_b 0 [o_v0, o_v1, o_v2, o_v3]) (word : Str) (word_le : word.length ≤ 281474976710656) (hw : word.length ≤ 12) : Calls Tryz.prog 42 #[.pointer (some ⟨o_b, 0, none⟩), strV word] w (Rets h w (fun h' _ res_ => ∃ u0, res_ = u0 ∧ Sl LStr h' u0 (stepsN o.lex.rules 4 word))) := by
 refine zM (n := 30) (args := [.pointer (some ⟨o_b, 0, none⟩), strV word]) Tryz.func42 X X X ?_
 have st0 : St h w h w [] := St.start hs
 have o_f0_b := o_f0.le
 have o_f1_b := o_f1.le
 have o_f2_b := o_f2.le
 refine zd<|O<|Y X X (r_asL X)<|U<|M<|zd<|O<|Y X X (r_mvS X)<|OpsL.sliceO (L := LStr) (xs := [word]) (cs := [strV word]) st0 (Enc.cons (L := LStr) (vs := [strV word]) (x := word) (h := h) (⟨rfl, zZ⟩) Enc.nil) X X X Tryz.underlying33 Tryz.info9 X X X X t_kr ?_
 intro v1 o5 w2 f3 st4
 refine Y X X (zD (v := v1) X)<|U<|M<|zd<|O<|Y X X (r_mvP X)<|Y X X (r_mvS X) ?_
 refine zad rfl rfl (zaj rfl Tryz.call83 rfl) ((c_stem_office_turns st4.sub (o := o) o_f0 o_f1 o_f2 o_f3 o_c _ zZ).mono ?_)
 rintro _ w6 ⟨h7, bl8, bw9, bo10, rfl, le11, s12, hc13⟩
 refine ⟨_, rfl, ?_⟩
 have st14 := st4.call s12
 refine Y X X (zD (v := (.func (.func 117) #[] #[.pointer (some ⟨bl8, 0, none⟩), .pointer (some ⟨bw9, 0, none⟩), .pointer (some ⟨bo10, 0, none⟩)])) X)<|U<|M<|zd<|zd<|O<|Y X X (zy (v := (.func (.func 117) #[] #[.pointer (some ⟨bl8, 0, none⟩), .pointer (some ⟨bw9, 0, none⟩), .pointer (some ⟨bo10, 0, none⟩)])) X) ?_
 have con := c_stem_office_turns_1 (left_b := bl8) (left := 4) (word_b := bw9) (word := word) (by omega) (o := o) (o_f0.up le11) (o_f1.up le11) (o_f2.up le11) (o_f3.up le11) (o_c.up le11) hc13 (by omega) (by exact hw) (st14.perm (List.reverse_perm _).symm)
 refine zad rfl rfl (run_call_value (fs := []) (cs := [.pointer (some ⟨bl8, 0, none⟩), .pointer (some ⟨bw9, 0, none⟩), .pointer (some ⟨bo10, 0, none⟩)]) rfl rfl Tryz.call117 rfl) (con.mono ?_)
 rintro _ w15 ⟨h16, _, l17, w18, rfl, le19, s20, rfl, rfl, rfl⟩
 refine ⟨_, rfl, ?_⟩
 clear con
 have st21 := s20.perm (List.reverse_perm _).symm
 refine Y X X (r_mvT X)<|Y X X (zH (v := (strV _)) X X)<|Y X X (zH (v := (.bool _)) X X)<|Y X X (r_asS X)<|Y X X (zJ X)<|U<|M<|zF ?_
 refine zX [5, 7, 8, 19, 20, 21, 22, 23, 24, 25, 26, 27, 28] (G := Nat × List Str × Str × Str × Bool × Int × Value × List (Nat × Obj) × Heap) (fun ⟨k, ini, la, cw, tb, lf, v_5, o_5, h23⟩ => [(5, v_5), (7, strV cw), (8, .bool tb)]) (fun ⟨k, ini, la, cw, tb, lf, v_5, o_5, h23⟩ w' => Le h16 h23 ∧ St h w h23 w' [o_5, [(bw9, .cells (List.toArray [strV cw]) 9)], [(bl8, .cells (List.toArray [.int .i64 lf]) 3)]] ∧ (OSl LStr 9 h23 v_5 (ini ++ [la]) o_5) ∧ (k ≤ 4) ∧ (ini.length = k) ∧ (la.length ≤ 12) ∧ (cw.length ≤ 12) ∧ (0 ≤ lf ∧ lf ≤ 4) ∧ (stepsN o.lex.rules 4 word = ini ++ stepsN o.lex.rules (4 - k) la) ∧ (tb = true → k < 4 ∧ stepOf o.lex.rules la = some cw ∧ lf = 3 - k) ∧ (tb = false → stepsN o.lex.rules (4 - k) la = [la])) (fun ⟨k, ini, la, cw, tb, lf, v_5, o_5, h23⟩ => 4 - k) ⟨0, [], word, (turnW o.lex.rules 4 word), (turnB o.lex.rules 4 word), (turnL 4), v1, o5, h16⟩ ⟨rfl, rfl, rfl, trivial⟩ ⟨Le.refl _, st21, (OSl.to (f3.up (le11.trans le19)) (by rfl)), zak, (by rfl), (by exact hw), (by exact turnW_len hw), (by decide), (by rfl), (by exact fun q => ⟨by omega, (turn_true q).2, by decide⟩), (by exact fun q => turn_false q (by rfl))⟩ ?_
 rintro ⟨k, ini, la, cw, tb, lf, v_5, o_5, h23⟩ _ w26 ⟨le24, st25, hO_5, hk, hn, hla, hcw, hlf, hq, ht, hf⟩
 refine zd<|zd<|O<|Y X X (zN X)<|U<|M ?_
 refine zt rfl (fun c27 => ?_) (fun c27 => ?_)
 ·
  refine zz<|M<|zd<|zF<|O<|Y X X (zy (v := v_5) X)<|Y X X (r_mvS X)<|zV (L := LStr) (xs := [cw]) (cs := [strV cw]) st25 (Enc.cons (L := LStr) (vs := [strV cw]) (x := cw) (h := h23) (⟨rfl, zZ⟩) Enc.nil) X X X Tryz.underlying33 Tryz.info9 X X X t_kr ?_
  intro v28 w29 h32 le33 f30 st31
  refine zP (k := 0) (nb := 16) st31 (hO_5.up le33) rfl f30 rfl rfl rfl Tryz.underlying33 Tryz.info9 rfl rfl rfl (by decide) rfl (by simp [hn]; omega) (by simp [hn]; omega) ?_
  intro v34 o35 w36 _ e37 f38 st39
  subst e37
  refine Y X X (zD (v := v34) X)<|U<|zI<|M<|O<|Y X X (zy (v := (.func (.func 117) #[] #[.pointer (some ⟨bl8, 0, none⟩), .pointer (some ⟨bw9, 0, none⟩), .pointer (some ⟨bo10, 0, none⟩)])) X) ?_
  have con := c_stem_office_turns_1 (left_b := bl8) (left := lf) (word_b := bw9) (word := cw) (by omega) (o := o) (o_f0.up (((le11.trans le19).trans le24).trans le33)) (o_f1.up (((le11.trans le19).trans le24).trans le33)) (o_f2.up (((le11.trans le19).trans le24).trans le33)) (o_f3.up (((le11.trans le19).trans le24).trans le33)) (o_c.up (((le11.trans le19).trans le24).trans le33)) (hc13.up ((le19.trans le24).trans le33)) (by omega) (by exact hcw) (st39.perm (List.reverse_perm _).symm)
  refine zad rfl rfl (run_call_value (fs := []) (cs := [.pointer (some ⟨bl8, 0, none⟩), .pointer (some ⟨bw9, 0, none⟩), .pointer (some ⟨bo10, 0, none⟩)]) rfl rfl Tryz.call117 rfl) (con.mono ?_)
  rintro _ w40 ⟨h41, _, l42, w43, rfl, le44, s45, rfl, rfl, rfl⟩
  refine ⟨_, rfl, ?_⟩
  clear con
  have st46 := s45.perm (List.reverse_perm _).symm
  refine Y X X (r_mvT X)<|Y X X (zH (v := (strV _)) X X)<|Y X X (zH (v := (.bool _)) X X)<|Y X X (r_asS X)<|Y X X (zJ X)<|U<|M ?_
  have q1 := ht c27
  refine ⟨⟨k + 1, ini ++ [la], cw, (turnW o.lex.rules lf cw), (turnB o.lex.rules lf cw), (turnL lf), v34, o35, h41⟩, ⟨rfl, rfl, rfl, trivial⟩, ?_, ⟨((le24.trans le33).trans le44), st46, ?_, ?_, ?_, ?_, ?_, ?_, ?_, ?_, ?_⟩, ?_⟩
  ·exact zae
  ·refine OSl.to (f38.up le44) ?_
   rfl
  ·omega
  ·simp [hn]
  ·exact hcw
  ·exact turnW_len hcw
  ·unfold turnL; split <;> omega
  ·rw [hq, stepsN_some (show 4 - k = (4 - (k + 1)) + 1 by omega) q1.2.1]; simp
  ·exact fun q => ⟨by have := (turn_true q).1; omega, (turn_true q).2, by have := (turn_true q).1; unfold turnL; rw [if_neg this]; omega⟩
  ·exact fun q => turn_false q (by omega)
  ·show 4 - ((k + 1)) < 4 - k
   omega
 ·
  refine zab<|zn<|zn<|zT<|M<|zd<|O<|Y X X (zy (v := v_5) X)<|Y X X (zD (v := v_5) X)<|U<|M<|zA<|zi Tryz.results42 ?_
  obtain ⟨h48, le49, f50, st51⟩ := OSl.freeze (k := 0) st25 hO_5 rfl (by simp [hn]; omega)
  refine ⟨h48, _, rfl, st51.done, ?_⟩
  refine ⟨_, rfl, Sl.to f50 ?_⟩
  rw [hq, hf (by simpa using c27)]
end Go.Pk

namespace Go.Pk
open Go Go.RowKit Go.Proofs
set_option maxRecDepth 4000 in
theorem c_stem_Steps {h : Heap} {w : World} (hs : Sub h w) {t : Text} {t_v0 : Value} (t_f0 : Sl LChapter h t_v0 t.chapters) {x : Lexicon} {x_v0 : Value} (x_f0 : Sl LRule h x_v0 x.rules) {x_v1 : Value} (x_f1 : Sl LDecision h x_v1 x.decisions) (word : Str) (word_le : word.length ≤ 281474976710656) (K0 : Cells h 0 0 Tryz.glob0) : Calls Tryz.prog 10 #[.agg #[t_v0], .agg #[x_v0, x_v1], strV word] w (Rets h w (fun h' _ res_ => ∃ u0, res_ = .tuple #[u0, .int .i64 (stepsE t x word)] ∧ Sl LStr h' u0 (stepsR t x word))) := by
 refine zM (n := 25) (args := [.agg #[t_v0], .agg #[x_v0, x_v1], strV word]) Tryz.func10 X X X ?_
 have st0 : St h w h w [] := St.start hs
 have t_f0_b := t_f0.le
 have x_f0_b := x_f0.le
 have x_f1_b := x_f1.le
 refine zd<|O<|zr st0 (cs := [t_v0]) X X X ?_
 intro b1 w2 h3 le4 hc5 st6
 refine zr st6 (cs := [x_v0, x_v1]) X X X ?_
 intro b7 w8 h9 le10 hc11 st12
 refine Y X X (r_asL X)<|Y X X (zx X)<|U<|M<|zd<|O<|Y X X (zf st12.sub (hc5.up le10) X Tryz.isAgg24 Tryz.sizeOf24 X)<|Y X X (zf st12.sub hc11 X Tryz.isAgg28 Tryz.sizeOf28 X)<|zm st12 X X X Tryz.call40 X (c_stem_open st12.sub (t := t) (t_f0.up (le4.trans le10)) (x := x) (x_f0.up (le4.trans le10)) (x_f1.up (le4.trans le10)) (K0.up (le4.trans le10))) ?_
 intro r13 w14 h15 le16 st17 q18
 rcases Bool.eq_false_or_eq_true (decide (checkN (t) (x) = 0)) with hb19 | hb19
 ·
  simp only [hb19, if_true, if_false, Bool.false_eq_true, reduceIte] at q18
  obtain ⟨v20, rfl, f21⟩ := q18
  obtain ⟨b22, vs23, rfl, hc24, hr25⟩ := f21
  obtain ⟨v26, v28, v30, v32, rfl, f27, f29, f31, lm33⟩ := hr25
  have f27_b := f27.le
  have f29_b := f29.le
  have f31_b := f31.le
  refine Y X X (r_mvT X)<|Y X X (zH (v := (.pointer (some _))) X X)<|Y X X (zH (v := (.int _ _)) X X)<|Y X X (r_asP X)<|Y X X (zx X)<|U<|M<|zd<|zd<|O<|Y X X (zo X)<|Y X X (r_neq X X)<|U<|M ?_
  refine zt rfl (fun c34 => ?_) (fun c34 => ?_)
  ·
   replace c34 := of_decide_eq_true c34
   refine zd<|O<|Y X X (zo X)<|Y X X (r_asL X)<|Y X X (zx X)<|U<|M<|zA<|zk<|zS Tryz.results10 ?_
   refine ⟨h15, _, rfl, st17.done, ?_⟩
   refine ⟨_, tup2 rfl (zW ?_), Sl.to (Sl.nil _ _) ?_⟩
   all_goals simp_all [stepsR, stepsE, wordB]
  ·
   replace c34 := of_decide_eq_false c34
   refine zz<|M<|zd<|zd<|O<|Y X X (r_mvS X)<|zm st17 X X X Tryz.call41 X (c_stem_letters st17.sub _ zZ _) ?_
   intro r35 w36 h37 le38 st39 q40
   obtain rfl := q40
   refine Y X X (r_not X)<|U<|M ?_
   refine zt rfl (fun c41 => ?_) (fun c41 => ?_)
   ·
    refine zd<|O<|Y X X (r_asL X)<|Y X X (zx X)<|U<|M<|zA<|zk<|zS Tryz.results10 ?_
    refine ⟨h37, _, rfl, st39.done, ?_⟩
    refine ⟨_, tup2 rfl (zW ?_), Sl.to (Sl.nil _ _) ?_⟩
    all_goals simp_all [stepsR, stepsE, wordB]
   ·
    refine zz<|M<|zd<|O<|Y X X (r_mvP X)<|Y X X (r_mvS X) ?_
    refine zm st39 rfl rfl rfl Tryz.call42 rfl (c_stem_office_steps st39.sub (o := (Office.mk (x) (t) (standM (x)))) (f27.up le38) (f29.up le38) (f31.up le38) (lm33.up le38) (hc24.up le38) _ zZ (by exact word_len (show wordB word = true by simpa [wordB] using c41))) ?_
    intro r42 w43 h44 le45 st46 q47
    obtain ⟨v48, e50, f49⟩ := q47
    rw [← e50] at f49
    have f49_b := f49.le
    refine Y X X (zD (v := r42) X)<|Y X X (zx X)<|U<|M<|zA<|zS Tryz.results10 ?_
    refine ⟨h44, _, rfl, st46.done, ?_⟩
    refine ⟨_, tup2 rfl (zW ?_), Sl.to f49 ?_⟩
    all_goals simp_all [stepsR, stepsE, wordB]
 ·
  simp only [hb19, if_true, if_false, Bool.false_eq_true, reduceIte] at q18
  obtain ⟨v51, rfl, f52⟩ := q18
  obtain rfl := f52
  refine Y X X (r_mvT X)<|Y X X (zH (v := (.pointer none)) X X)<|Y X X (zH (v := (.int _ _)) X X)<|Y X X (zD X)<|Y X X (zx X)<|U<|M<|zd<|zd<|O<|Y X X (zo X)<|Y X X (r_neq X X)<|U<|M ?_
  refine zt rfl (fun c53 => ?_) (fun c53 => ?_)
  ·
   replace c53 := of_decide_eq_true c53
   refine zd<|O<|Y X X (zo X)<|Y X X (r_asL X)<|Y X X (zx X)<|U<|M<|zA<|zk<|zS Tryz.results10 ?_
   refine ⟨h15, _, rfl, st17.done, ?_⟩
   refine ⟨_, tup2 rfl (zW ?_), Sl.to (Sl.nil _ _) ?_⟩
   all_goals simp_all [stepsR, stepsE, wordB]
  ·
   replace c53 := of_decide_eq_false c53
   exfalso
   simp_all
set_option maxRecDepth 4000 in
theorem c_stem_Standing {h : Heap} {w : World} (hs : Sub h w) {t : Text} {t_v0 : Value} (t_f0 : Sl LChapter h t_v0 t.chapters) {x : Lexicon} {x_v0 : Value} (x_f0 : Sl LRule h x_v0 x.rules) {x_v1 : Value} (x_f1 : Sl LDecision h x_v1 x.decisions) (K0 : Cells h 0 0 Tryz.glob0) : Calls Tryz.prog 12 #[.agg #[t_v0], .agg #[x_v0, x_v1]] w (Rets h w (fun h' _ res_ => ∃ u0, res_ = .tuple #[u0, .int .i64 (checkN t x)] ∧ Sl LInt h' u0 (standingN t x))) := by
 refine zM (n := 35) (args := [.agg #[t_v0], .agg #[x_v0, x_v1]]) Tryz.func12 X X X ?_
 have st0 : St h w h w [] := St.start hs
 have t_f0_b := t_f0.le
 have x_f0_b := x_f0.le
 have x_f1_b := x_f1.le
 refine zd<|O<|zr st0 (cs := [t_v0]) X X X ?_
 intro b1 w2 h3 le4 hc5 st6
 refine zr st6 (cs := [x_v0, x_v1]) X X X ?_
 intro b7 w8 h9 le10 hc11 st12
 refine Y X X (r_asL X)<|Y X X (zx X)<|U<|M<|zd<|O<|Y X X (zf st12.sub (hc5.up le10) X Tryz.isAgg24 Tryz.sizeOf24 X)<|Y X X (zf st12.sub hc11 X Tryz.isAgg28 Tryz.sizeOf28 X)<|zm st12 X X X Tryz.call40 X (c_stem_open st12.sub (t := t) (t_f0.up (le4.trans le10)) (x := x) (x_f0.up (le4.trans le10)) (x_f1.up (le4.trans le10)) (K0.up (le4.trans le10))) ?_
 intro r13 w14 h15 le16 st17 q18
 rcases Bool.eq_false_or_eq_true (decide (checkN (t) (x) = 0)) with hb19 | hb19
 ·
  simp only [hb19, if_true, if_false, Bool.false_eq_true, reduceIte] at q18
  obtain ⟨v20, rfl, f21⟩ := q18
  obtain ⟨b22, vs23, rfl, hc24, hr25⟩ := f21
  obtain ⟨v26, v28, v30, v32, rfl, f27, f29, f31, lm33⟩ := hr25
  have f27_b := f27.le
  have f29_b := f29.le
  have f31_b := f31.le
  refine Y X X (r_mvT X)<|Y X X (zH (v := (.pointer (some _))) X X)<|Y X X (zH (v := (.int _ _)) X X)<|Y X X (r_asP X)<|Y X X (zx X)<|U<|M<|zd<|zd<|O<|Y X X (zo X)<|Y X X (r_neq X X)<|U<|M ?_
  refine zt rfl (fun c34 => ?_) (fun c34 => ?_)
  ·
   replace c34 := of_decide_eq_true c34
   refine zd<|O<|Y X X (zo X)<|Y X X (r_asL X)<|Y X X (zx X)<|U<|M<|zA<|zk<|zS Tryz.results12 ?_
   refine ⟨h15, _, rfl, st17.done, ?_⟩
   refine ⟨_, tup2 rfl (zW ?_), Sl.to (Sl.nil _ _) ?_⟩
   all_goals simp_all [standingN]
  ·
   replace c34 := of_decide_eq_false c34
   refine zz<|M<|zd<|O<|Y X X (r_asL X)<|U<|M<|zd<|zd ?_
   have hck : checkN t x = 0 := by simpa using c34
   have hml : (standM x).length ≤ 20 := standM_len hck
   refine O<|Y X X (r_mvP X)<|Y X X (r_nil_check X)<|Y X X (zc X Tryz.underlying103 X Tryz.sizeOf101 X)<|Y X X (zb (j := 3) st17.sub hc24 X X X Tryz.isAgg101)<|OpsL.rangeM st17 lm33.1 X Tryz.underlying101 X ?_
   intro o35 vi36 w37 hI38 st39
   refine U<|M<|zF ?_
   have st43 := st39.snoc
   have f44 := OSl.nil LInt 3 h15
   refine zX [8, 9, 24, 25, 26, 27, 28, 29, 30, 31] (G := List (Int × Decision) × List (Int × Decision) × Value × List (Nat × Obj) × List (Nat × Obj) × Heap) (fun ⟨dn, rm, v_8, o_8, o_23, h40⟩ => [(8, v_8)]) (fun ⟨dn, rm, v_8, o_8, o_23, h40⟩ w' => Le h15 h40 ∧ St h w h40 w' [o_23, o_8] ∧ (OSl LInt 3 h40 v_8 (dn.map (·.1)) o_8) ∧ (MI (fun n : Int => .int .i64 n) (fun x => .agg ((fun x : Decision => [.int .i64 x.number, .int .u8 x.kind, strV x.form, .int .i64 x.at_.chapter, .int .i64 x.at_.line, .int .i64 x.at_.word, strV x.to.stem, .int .u8 x.to.mark, .int .i64 x.of_]) x).toArray) h40 v32 o_23 vi36 rm) ∧ ((dn ++ rm).Perm (standM x))) (fun ⟨dn, rm, v_8, o_8, o_23, h40⟩ => rm.length) ⟨[], (standM x), (.slice none 0 0), [], o35, h15⟩ ⟨rfl, trivial⟩ ⟨Le.refl _, st43, (OSl.to f44 (by rfl)), hI38, (by exact List.Perm.refl _)⟩ ?_
   rintro ⟨dn, rm, v_8, o_8, o_23, h40⟩ _ w45 ⟨le41, st42, hO_8, hI_23, hpd⟩
   refine zd<|O ?_
   refine OpsL.nextM (i := 0) st42 hI_23 rfl rfl rfl (fun e46 w47 st48 => ?_) (fun p49 rm50 o51 w56 _ e57 hp54 hI52 hC53 st55 => ?_)
   ·
    refine Y X X (zH (v := (.bool _)) X X)<|U<|M<|zd ?_
    refine zt rfl (fun c58 => ?_) (fun c58 => ?_)
    ·
     cases c58
    ·
     refine zab<|zn<|zn<|zT<|M<|zd ?_
     have hdn : dn.Perm (standM x) := by
      have q := hpd
      rw [e46, List.append_nil] at q
      exact q
     have hdl := hdn.length_eq
     refine O<|Y X X (zy (v := v_8) X) ?_
     have con := sort1 (L := LInt) (T := 3) (f := 45) (fun n : Int => .int .i64 n) id rfl (fun l => l.mergeSort fun a b => decide (a ≤ b)) (fun l => List.mergeSort_perm _ _) (fun blk off cap zs w hH hb hs => Tryz.slices_Sort_int blk off cap zs w hH hb hs) (fun p cap w => Tryz.slices_Sort_int_none p cap w) (i := 1) st48 hO_8 rfl (by simp only [List.length_map]; omega)
     refine zad rfl rfl (zaj rfl Tryz.call45 rfl) (con.mono ?_)
     rintro _ w59 ⟨rfl, o60, _, e61, f62, st63⟩
     subst e61
     refine ⟨_, rfl, ?_⟩
     clear con
     have f64 := OSl.to f62 (show _ = (standingN t x) from (standing_eq (okD_of hck) hdn).trans (by rw [standingN, if_pos hck]))
     refine U<|M<|zd<|O<|Y X X (zy (v := v_8) X)<|Y X X (zD (v := v_8) X)<|Y X X (zx X)<|U<|M<|zA<|zS Tryz.results12 ?_
     obtain ⟨h65, le66, f67, st68⟩ := OSl.freeze (k := 1) st63 f64 rfl (by have q := standingN_len t x; omega)
     refine ⟨h65, _, rfl, st68.done, ?_⟩
     refine ⟨_, tup2 rfl (zW ?_), Sl.to f67 ?_⟩
     all_goals simp_all [standingN]
   ·
    subst e57
    refine Y X X (zH (v := (.bool _)) X X)<|U<|M<|zd ?_
    refine zt rfl (fun c69 => ?_) (fun c69 => ?_)
    ·
     refine zz<|M<|zF<|zd<|O<|Y X X (r_entry st55.sub hC53 (st55.ent (k := 0) X) X)<|Y X X (zH (v := (.int _ _)) X X)<|Y X X (zx X)<|U<|M<|O<|Y X X (zy (v := v_8) X)<|Y X X (zo X)<|zV (L := LInt) (xs := [p49.1]) (cs := [.int .i64 p49.1]) st55 (Enc.cons (L := LInt) (vs := [.int .i64 p49.1]) (x := p49.1) (h := h40) (X) Enc.nil) X X X Tryz.underlying39 Tryz.info3 X X X t_kr ?_
     intro v70 w71 h74 le75 f72 st73
     refine zP (k := 1) (nb := 8) st73 (hO_8.up le75) rfl f72 rfl rfl rfl Tryz.underlying39 Tryz.info3 rfl rfl rfl (by decide) rfl (by have q := hpd.length_eq; simp only [List.length_append, List.length_map, List.length_cons, List.length_nil] at *; omega) (by have q := hpd.length_eq; simp only [List.length_append, List.length_map, List.length_cons, List.length_nil] at *; omega) ?_
     intro v76 o77 w78 _ e79 f80 st81
     subst e79
     refine Y X X (zD (v := v76) X)<|U<|zI<|M ?_
     refine ⟨⟨dn ++ [p49], rm50, v76, o77, o51, h74⟩, ⟨rfl, trivial⟩, ?_, ⟨(le41.trans le75), st81, ?_, ?_, ?_⟩, ?_⟩
     ·exact zae
     ·refine OSl.to f80 ?_
      rw [List.map_append]; rfl
     ·exact (hI52.up le75)
     ·exact perm_step hpd hp54
     ·show ((rm50)).length < rm.length
      have q := hp54.length_eq; simp only [List.length_cons] at q; omega
    ·
     cases c69
 ·
  simp only [hb19, if_true, if_false, Bool.false_eq_true, reduceIte] at q18
  obtain ⟨v82, rfl, f83⟩ := q18
  obtain rfl := f83
  refine Y X X (r_mvT X)<|Y X X (zH (v := (.pointer none)) X X)<|Y X X (zH (v := (.int _ _)) X X)<|Y X X (zD X)<|Y X X (zx X)<|U<|M<|zd<|zd<|O<|Y X X (zo X)<|Y X X (r_neq X X)<|U<|M ?_
  refine zt rfl (fun c84 => ?_) (fun c84 => ?_)
  ·
   replace c84 := of_decide_eq_true c84
   refine zd<|O<|Y X X (zo X)<|Y X X (r_asL X)<|Y X X (zx X)<|U<|M<|zA<|zk<|zS Tryz.results12 ?_
   refine ⟨h15, _, rfl, st17.done, ?_⟩
   refine ⟨_, tup2 rfl (zW ?_), Sl.to (Sl.nil _ _) ?_⟩
   all_goals simp_all [standingN]
  ·
   replace c84 := of_decide_eq_false c84
   exfalso
   simp_all
end Go.Pk

namespace Go.Pk
open Go Go.RowKit Go.Proofs
set_option maxRecDepth 4000 in
theorem c_postilref01_Great {h : Heap} {w : World} (hs : Sub h w) {t : Text} {t_v0 : Value} (t_f0 : Sl LChapter h t_v0 t.chapters) : Calls Tryz.prog 6 #[.agg #[t_v0]] w (Rets h w (fun _ _ res_ => res_ = .bool ((!smallT t)))) := by
 refine zM (n := 75) (args := [.agg #[t_v0]]) Tryz.func6 X X X ?_
 have st0 : St h w h w [] := St.start hs
 have t_f0_b := t_f0.le
 refine zd<|O<|zr st0 (cs := [t_v0]) X X X ?_
 intro b1 w2 h3 le4 hc5 st6
 refine Y X X (zJ X)<|U<|M<|zd<|zd<|O<|Y X X (zc X Tryz.underlying24 X Tryz.sizeOf22 X)<|Y X X (zb (j := 0) st6.sub hc5 X X X Tryz.isAgg22)<|Y X X (zag (t_f0.up le4) X Tryz.underlying22)<|Y X X (r_gtr X X)<|U<|M ?_
 refine zt rfl (fun c7 => ?_) (fun c7 => ?_)
 ·
  replace c7 := of_decide_eq_true c7
  refine zd<|O<|Y X X (zJ X)<|U<|M<|zA<|zk<|zi Tryz.results6 ?_
  refine ⟨h3, _, rfl, st6.done, ?_⟩
  refine zw ?_
  simp [smallT]; intros; omega
 ·
  replace c7 := of_decide_eq_false c7
  refine zz<|M<|zd<|zd<|O<|Y X X (zx X)<|U<|M<|zF ?_
  refine zX [2, 3, 4, 5, 10, 11, 12, 13, 14, 15, 16, 17, 18, 19, 20, 21, 22, 23, 24, 25, 26, 27, 28, 29, 30, 31, 32, 33, 34, 35, 36, 37, 38, 39, 40, 41, 42, 43, 44, 45, 46, 47, 48, 49, 50, 51, 52, 53, 54, 55, 56, 57, 58, 59, 60, 61, 62, 63, 64, 65, 66, 67, 68, 69, 70, 71, 72, 73, 74] (G := Nat × Heap) (fun ⟨i, h8⟩ => [(3, .int .i64 (i : Int))]) (fun ⟨i, h8⟩ w' => Le h3 h8 ∧ St h w h8 w' [] ∧ (i ≤ t.chapters.length) ∧ ((t.chapters.take i).all smallC = true)) (fun ⟨i, h8⟩ => t.chapters.length - i) ⟨0, h3⟩ ⟨rfl, trivial⟩ ⟨Le.refl _, st6, zak, zak⟩ ?_
  rintro ⟨i, h8⟩ _ w11 ⟨le9, st10, hi, hA⟩
  refine zd<|zd<|O<|Y X X (zo X)<|Y X X (zc X Tryz.underlying24 X Tryz.sizeOf22 X)<|Y X X (zb (j := 0) st10.sub (hc5.up le9) X X X Tryz.isAgg22)<|Y X X (zag (t_f0.up (le4.trans le9)) X Tryz.underlying22)<|Y X X (zal X X)<|U<|M ?_
  refine zt rfl (fun c12 => ?_) (fun c12 => ?_)
  ·
   replace c12 := of_decide_eq_true c12
   refine zz<|M<|zd<|zF<|zd<|zd<|O<|Y X X (zc X Tryz.underlying24 X Tryz.sizeOf22 X)<|Y X X (zb (j := 0) st10.sub (hc5.up le9) X X X Tryz.isAgg22)<|Y X X (zo X) ?_
   have hc : ∃ y_, (t.chapters)[i]? = some y_ := ⟨_, List.getElem?_eq_getElem (by omega)⟩
   obtain ⟨c, hc⟩ := hc
   obtain ⟨b13, o14, _, he16, hc15, hr_c⟩ := Sl.elem (t_f0.up (le4.trans le9)) hc
   obtain ⟨v17, rfl, f18⟩ := hr_c
   have f18_b := f18.le
   refine Y X X (zp he16 X X (hk := X) (hu := Tryz.underlying22) (hz := Tryz.sizeOf93))<|Y X X (zc X Tryz.underlying93 X Tryz.sizeOf91 X)<|Y X X (zb (j := 1) st10.sub hc15 X X X Tryz.isAgg91)<|Y X X (zag f18 X Tryz.underlying91)<|Y X X (r_gtr X X)<|U<|M ?_
   refine zt rfl (fun c19 => ?_) (fun c19 => ?_)
   ·
    replace c19 := of_decide_eq_true c19
    refine zd<|O<|Y X X (zJ X)<|U<|M<|zA<|zk<|zL<|zk<|zk<|zL<|zk<|zi Tryz.results6 ?_
    refine ⟨h8, _, rfl, st10.done, ?_⟩
    refine zw ?_
    have q0 : smallC c = false := by simp [smallC]; intros; omega
    have q := not_all (p := smallC) hc q0
    simp [smallT, q]
   ·
    replace c19 := of_decide_eq_false c19
    refine zz<|M<|zd<|O<|Y X X (zx X)<|U<|M<|zF ?_
    refine zX [2, 4, 5, 25, 26, 27, 28, 29, 30, 31, 32, 33, 34, 35, 36, 37, 38, 39, 40, 41, 42, 43, 44, 45, 46, 47, 48, 49, 50, 51, 52, 53, 54, 55, 56, 57, 58, 59, 60, 61, 62, 63, 64, 65, 66, 67, 68, 69, 70, 71, 72, 73, 74] (G := Nat × Heap) (fun ⟨k, h20⟩ => [(4, .int .i64 (k : Int))]) (fun ⟨k, h20⟩ w' => Le h8 h20 ∧ St h w h20 w' [] ∧ (k ≤ c.lines.length) ∧ ((c.lines.take k).all smallL = true)) (fun ⟨k, h20⟩ => c.lines.length - k) ⟨0, h8⟩ ⟨rfl, trivial⟩ ⟨Le.refl _, st10, zak, zak⟩ ?_
    rintro ⟨k, h20⟩ _ w23 ⟨le21, st22, hk, hB⟩
    refine zd<|zd<|O<|Y X X (zo X)<|Y X X (zc X Tryz.underlying24 X Tryz.sizeOf22 X)<|Y X X (zb (j := 0) st22.sub (hc5.up (le9.trans le21)) X X X Tryz.isAgg22)<|Y X X (zo X)<|Y X X (zp he16 X X (hk := X) (hu := Tryz.underlying22) (hz := Tryz.sizeOf93))<|Y X X (zc X Tryz.underlying93 X Tryz.sizeOf91 X)<|Y X X (zb (j := 1) st22.sub (hc15.up le21) X X X Tryz.isAgg91)<|Y X X (zag (f18.up le21) X Tryz.underlying91)<|Y X X (zal X X)<|U<|M ?_
    refine zt rfl (fun c24 => ?_) (fun c24 => ?_)
    ·
     replace c24 := of_decide_eq_true c24
     refine zz<|M<|zd<|zF<|zd<|zd<|O<|Y X X (zc X Tryz.underlying24 X Tryz.sizeOf22 X)<|Y X X (zb (j := 0) st22.sub (hc5.up (le9.trans le21)) X X X Tryz.isAgg22)<|Y X X (zo X)<|Y X X (zp he16 X X (hk := X) (hu := Tryz.underlying22) (hz := Tryz.sizeOf93))<|Y X X (zc X Tryz.underlying93 X Tryz.sizeOf91 X)<|Y X X (zb (j := 1) st22.sub (hc15.up le21) X X X Tryz.isAgg91)<|Y X X (zo X) ?_
     have hln : ∃ y_, (c.lines)[k]? = some y_ := ⟨_, List.getElem?_eq_getElem (by omega)⟩
     obtain ⟨ln, hln⟩ := hln
     obtain ⟨b25, o26, _, he28, hc27, hr_ln⟩ := Sl.elem (f18.up le21) hln
     obtain ⟨v29, rfl, f30⟩ := hr_ln
     have f30_b := f30.le
     refine Y X X (zp he28 X X (hk := X) (hu := Tryz.underlying91) (hz := Tryz.sizeOf33))<|Y X X (zb (j := 0) st22.sub hc27 X X X Tryz.isAgg33)<|Y X X (zag f30 X Tryz.underlying33)<|Y X X (r_gtr X X)<|U<|M ?_
     refine zt rfl (fun c31 => ?_) (fun c31 => ?_)
     ·
      replace c31 := of_decide_eq_true c31
      refine zd<|O<|Y X X (zJ X)<|U<|M<|zA<|zk<|zL<|zk<|zk<|zL<|zL<|zk<|zk<|zL<|zk<|zi Tryz.results6 ?_
      refine ⟨h20, _, rfl, st22.done, ?_⟩
      refine zw ?_
      have q1 : smallL ln = false := by simp [smallL]; intros; omega
      have q2 := not_all (p := smallL) hln q1
      have q0 : smallC c = false := by simp [smallC, q2]
      have q := not_all (p := smallC) hc q0
      simp [smallT, q]
     ·
      replace c31 := of_decide_eq_false c31
      refine zz<|M<|zd<|O<|Y X X (zx X)<|U<|M<|zF ?_
      refine zX [2, 5, 47, 48, 49, 50, 51, 52, 53, 54, 55, 56, 57, 58, 59, 60, 61, 62, 63, 64, 65, 66, 67, 68, 69, 70, 71, 72, 73, 74] (G := Nat × Heap) (fun ⟨m, h32⟩ => [(5, .int .i64 (m : Int))]) (fun ⟨m, h32⟩ w' => Le h20 h32 ∧ St h w h32 w' [] ∧ (m ≤ ln.length) ∧ ((ln.take m).all smallW = true)) (fun ⟨m, h32⟩ => ln.length - m) ⟨0, h20⟩ ⟨rfl, trivial⟩ ⟨Le.refl _, st22, zak, zak⟩ ?_
      rintro ⟨m, h32⟩ _ w35 ⟨le33, st34, hm, hC⟩
      refine zd<|zd<|O<|Y X X (zo X)<|Y X X (zc X Tryz.underlying24 X Tryz.sizeOf22 X)<|Y X X (zb (j := 0) st34.sub (hc5.up ((le9.trans le21).trans le33)) X X X Tryz.isAgg22)<|Y X X (zo X)<|Y X X (zp he16 X X (hk := X) (hu := Tryz.underlying22) (hz := Tryz.sizeOf93))<|Y X X (zc X Tryz.underlying93 X Tryz.sizeOf91 X)<|Y X X (zb (j := 1) st34.sub (hc15.up (le21.trans le33)) X X X Tryz.isAgg91)<|Y X X (zo X)<|Y X X (zp he28 X X (hk := X) (hu := Tryz.underlying91) (hz := Tryz.sizeOf33))<|Y X X (zb (j := 0) st34.sub (hc27.up le33) X X X Tryz.isAgg33)<|Y X X (zag (f30.up le33) X Tryz.underlying33)<|Y X X (zal X X)<|U<|M ?_
      refine zt rfl (fun c36 => ?_) (fun c36 => ?_)
      ·
       replace c36 := of_decide_eq_true c36
       refine zz<|M<|zd<|zF<|zd<|O<|Y X X (zc X Tryz.underlying24 X Tryz.sizeOf22 X)<|Y X X (zb (j := 0) st34.sub (hc5.up ((le9.trans le21).trans le33)) X X X Tryz.isAgg22)<|Y X X (zo X)<|Y X X (zp he16 X X (hk := X) (hu := Tryz.underlying22) (hz := Tryz.sizeOf93))<|Y X X (zc X Tryz.underlying93 X Tryz.sizeOf91 X)<|Y X X (zb (j := 1) st34.sub (hc15.up (le21.trans le33)) X X X Tryz.isAgg91)<|Y X X (zo X)<|Y X X (zp he28 X X (hk := X) (hu := Tryz.underlying91) (hz := Tryz.sizeOf33))<|Y X X (zb (j := 0) st34.sub (hc27.up le33) X X X Tryz.isAgg33)<|Y X X (zo X) ?_
       have hwd : ∃ y_, (ln)[m]? = some y_ := ⟨_, List.getElem?_eq_getElem (by omega)⟩
       obtain ⟨wd, hwd⟩ := hwd
       obtain ⟨b37, o38, _, he40, hc39, hr_wd⟩ := Sl.elem (f30.up le33) hwd
       obtain ⟨rfl, ls41⟩ := hr_wd
       simp only [big] at ls41
       refine Y X X (zp he40 X X (hk := X) (hu := Tryz.underlying33) (hz := Tryz.sizeOf9))<|Y X X (zb (j := 0) st34.sub hc39 X X X Tryz.isAgg9)<|Y X X (zar X Tryz.underlying9)<|Y X X (r_gtr X X)<|U<|M ?_
       refine zt rfl (fun c42 => ?_) (fun c42 => ?_)
       ·
        replace c42 := of_decide_eq_true c42
        refine zd<|O<|Y X X (zJ X)<|U<|M<|zA<|zL<|zk<|zk<|zL<|zL<|zk<|zk<|zL<|zL<|zk<|zk<|zL<|zk<|zi Tryz.results6 ?_
        refine ⟨h32, _, rfl, st34.done, ?_⟩
        refine zw ?_
        have q3 := not_all (p := smallW) hwd (by simp [smallW]; omega)
        have q1 : smallL ln = false := by simp [smallL, q3]
        have q2 := not_all (p := smallL) hln q1
        have q0 : smallC c = false := by simp [smallC, q2]
        have q := not_all (p := smallC) hc q0
        simp [smallT, q]
       ·
        replace c42 := of_decide_eq_false c42
        refine zz<|zI<|M<|O<|Y X X (zo X)<|Y X X (zah X X t_om)<|Y X X (zx X)<|U<|M ?_
        refine ⟨⟨m + 1, h32⟩, ⟨rfl, trivial⟩, ?_, ⟨le33, st34, ?_, ?_⟩, ?_⟩
        ·exact zae
        ·first | omega | (simp; omega)
        ·exact all_take_succ hC hwd (by have q := c42; simp [smallW]; omega)
        ·show ln.length - ((m + 1)) < ln.length - m
         omega
      ·
       replace c36 := of_decide_eq_false c36
       refine zab<|zn<|zn<|zT<|zI<|M<|O<|Y X X (zo X)<|Y X X (zah X X t_om)<|Y X X (zx X)<|U<|M ?_
       have HL : smallL ln = true := by
        have q := all_of_take hC (by omega)
        have q1 := c36
        simp [smallL, q]; omega
       refine ⟨⟨k + 1, h32⟩, ⟨rfl, trivial⟩, ?_, ⟨(le21.trans le33), st34, ?_, ?_⟩, ?_⟩
       ·exact zae
       ·first | omega | (simp; omega)
       ·exact all_take_succ hB hln HL
       ·show c.lines.length - ((k + 1)) < c.lines.length - k
        omega
    ·
     replace c24 := of_decide_eq_false c24
     refine zab<|zn<|zn<|zT<|zI<|M<|O<|Y X X (zo X)<|Y X X (zah X X t_om)<|Y X X (zx X)<|U<|M ?_
     have HC : smallC c = true := by
      have q := all_of_take hB (by omega)
      have q1 := c24
      simp [smallC, q]; omega
     refine ⟨⟨i + 1, h20⟩, ⟨rfl, trivial⟩, ?_, ⟨(le9.trans le21), st22, ?_, ?_⟩, ?_⟩
     ·exact zae
     ·first | omega | (simp; omega)
     ·exact all_take_succ hA hc HC
     ·show t.chapters.length - ((i + 1)) < t.chapters.length - i
      omega
  ·
   replace c12 := of_decide_eq_false c12
   refine zab<|zn<|zn<|zT<|M<|zd<|O<|Y X X (zJ X)<|U<|M<|zA<|zi Tryz.results6 ?_
   refine ⟨h8, _, rfl, st10.done, ?_⟩
   refine zw ?_
   have q := all_of_take hA (by omega)
   simp [smallT, q]; omega
set_option maxRecDepth 4000 in
theorem c_postilref04_Great {h : Heap} {w : World} (hs : Sub h w) {x : Lexicon} {x_v0 : Value} (x_f0 : Sl LRule h x_v0 x.rules) {x_v1 : Value} (x_f1 : Sl LDecision h x_v1 x.decisions) : Calls Tryz.prog 7 #[.agg #[x_v0, x_v1]] w (Rets h w (fun _ _ res_ => res_ = .bool ((!smallX x)))) := by
 refine zM (n := 64) (args := [.agg #[x_v0, x_v1]]) Tryz.func7 X X X ?_
 have st0 : St h w h w [] := St.start hs
 have x_f0_b := x_f0.le
 have x_f1_b := x_f1.le
 refine zd<|O<|zr st0 (cs := [x_v0, x_v1]) X X X ?_
 intro b1 w2 h3 le4 hc5 st6
 refine Y X X (zJ X)<|U<|M<|zd<|zd<|O<|Y X X (zc X Tryz.underlying28 X Tryz.sizeOf25 X)<|Y X X (zb (j := 0) st6.sub hc5 X X X Tryz.isAgg25)<|Y X X (zag (x_f0.up le4) X Tryz.underlying25)<|Y X X (r_gtr X X)<|Y X X (zN X) ?_
 refine zG (d := 10) rfl (fun g7 => ?_) (fun g7 => ?_)
 ·
  replace g7 := of_decide_eq_true g7
  refine E X X (d := 10) X X X<|E X X (d := 10) X X X<|E X X (d := 10) X X X<|E X X (d := 10) X X X<|Y X X (zK (v := (.bool _)) X X)<|U<|M ?_
  refine zt rfl (fun c8 => ?_) (fun c8 => ?_)
  ·
   refine zd<|O<|Y X X (zJ X)<|U<|M<|zA<|zk<|zi Tryz.results7 ?_
   refine ⟨h3, _, rfl, st6.done, ?_⟩
   refine zw ?_
   first | (simp [smallX]; intros; omega) | (simp [smallX, not_all (p := smallR) hr (by simp [smallR]; intros; omega)]; done) | (simp [smallX, not_all (p := smallD) hd (by simp [smallD]; intros; omega)]; done) | (simp [smallX, all_of_take hA (by omega), all_of_take hB (by omega)]; omega)
  ·
   cases c8
 ·
  replace g7 := of_decide_eq_false g7
  refine za X X (d := 10) X<|Y X X (zc X Tryz.underlying28 X Tryz.sizeOf26 X)<|za X X (d := 10) X<|Y X X (zb (j := 1) st6.sub hc5 X X X Tryz.isAgg26)<|za X X (d := 10) X<|Y X X (zag (x_f1.up le4) X Tryz.underlying26)<|za X X (d := 10) X<|Y X X (r_gtr X X)<|Y X X (zC (v := (.bool _)) X X)<|U<|M ?_
  refine zt rfl (fun c9 => ?_) (fun c9 => ?_)
  ·
   replace c9 := of_decide_eq_true c9
   refine zd<|O<|Y X X (zJ X)<|U<|M<|zA<|zk<|zi Tryz.results7 ?_
   refine ⟨h3, _, rfl, st6.done, ?_⟩
   refine zw ?_
   first | (simp [smallX]; intros; omega) | (simp [smallX, not_all (p := smallR) hr (by simp [smallR]; intros; omega)]; done) | (simp [smallX, not_all (p := smallD) hd (by simp [smallD]; intros; omega)]; done) | (simp [smallX, all_of_take hA (by omega), all_of_take hB (by omega)]; omega)
  ·
   replace c9 := of_decide_eq_false c9
   refine zz<|M<|zd<|zd<|O<|Y X X (zx X)<|U<|M<|zF ?_
   refine zX [2, 3, 16, 17, 18, 19, 20, 21, 22, 23, 24, 25, 26, 27, 28, 29, 30, 31, 32, 33, 34, 35, 36, 37, 38, 39, 40] (G := Nat × Heap) (fun ⟨i, h10⟩ => [(3, .int .i64 (i : Int))]) (fun ⟨i, h10⟩ w' => Le h3 h10 ∧ St h w h10 w' [] ∧ (i ≤ x.rules.length) ∧ ((x.rules.take i).all smallR = true)) (fun ⟨i, h10⟩ => x.rules.length - i) ⟨0, h3⟩ ⟨rfl, trivial⟩ ⟨Le.refl _, st6, zak, zak⟩ ?_
   rintro ⟨i, h10⟩ _ w13 ⟨le11, st12, hi, hA⟩
   refine zd<|zd<|O<|Y X X (zo X)<|Y X X (zc X Tryz.underlying28 X Tryz.sizeOf25 X)<|Y X X (zb (j := 0) st12.sub (hc5.up le11) X X X Tryz.isAgg25)<|Y X X (zag (x_f0.up (le4.trans le11)) X Tryz.underlying25)<|Y X X (zal X X)<|U<|M ?_
   refine zt rfl (fun c14 => ?_) (fun c14 => ?_)
   ·
    replace c14 := of_decide_eq_true c14
    refine zz<|M<|zd<|zF<|zd<|O<|Y X X (zc X Tryz.underlying28 X Tryz.sizeOf25 X)<|Y X X (zb (j := 0) st12.sub (hc5.up le11) X X X Tryz.isAgg25)<|Y X X (zo X) ?_
    have hr : ∃ y_, (x.rules)[i]? = some y_ := ⟨_, List.getElem?_eq_getElem (by omega)⟩
    obtain ⟨r, hr⟩ := hr
    obtain ⟨b15, o16, _, he18, hc17, hr_r⟩ := Sl.elem (x_f0.up (le4.trans le11)) hr
    obtain ⟨rfl, ls19, ls20⟩ := hr_r
    simp only [big] at ls19
    simp only [big] at ls20
    refine Y X X (zp he18 X X (hk := X) (hu := Tryz.underlying25) (hz := Tryz.sizeOf70))<|Y X X (zc X Tryz.underlying70 X Tryz.sizeOf9 X)<|Y X X (zb (j := 0) st12.sub hc17 X X X Tryz.isAgg9)<|Y X X (zar X Tryz.underlying9)<|Y X X (r_gtr X X)<|Y X X (zN X) ?_
    refine zG (d := 31) rfl (fun g21 => ?_) (fun g21 => ?_)
    ·
     replace g21 := of_decide_eq_true g21
     refine E X X (d := 31) X X X<|E X X (d := 31) X X X<|E X X (d := 31) X X X<|E X X (d := 31) X X X<|E X X (d := 31) X X X<|E X X (d := 31) X X X<|E X X (d := 31) X X X<|E X X (d := 31) X X X<|Y X X (zK (v := (.bool _)) X X)<|U<|M ?_
     refine zt rfl (fun c22 => ?_) (fun c22 => ?_)
     ·
      refine zd<|O<|Y X X (zJ X)<|U<|M<|zA<|zL<|zk<|zk<|zL<|zk<|zi Tryz.results7 ?_
      refine ⟨h10, _, rfl, st12.done, ?_⟩
      refine zw ?_
      first | (simp [smallX]; intros; omega) | (simp [smallX, not_all (p := smallR) hr (by simp [smallR]; intros; omega)]; done) | (simp [smallX, not_all (p := smallD) hd (by simp [smallD]; intros; omega)]; done) | (simp [smallX, all_of_take hA (by omega), all_of_take hB (by omega)]; omega)
     ·
      cases c22
    ·
     replace g21 := of_decide_eq_false g21
     refine za X X (d := 31) X<|Y X X (zc X Tryz.underlying28 X Tryz.sizeOf25 X)<|za X X (d := 31) X<|Y X X (zb (j := 0) st12.sub (hc5.up le11) X X X Tryz.isAgg25)<|za X X (d := 31) X<|Y X X (zo X)<|za X X (d := 31) X<|Y X X (zp he18 X X (hk := X) (hu := Tryz.underlying25) (hz := Tryz.sizeOf70))<|za X X (d := 31) X<|Y X X (zc X Tryz.underlying70 X Tryz.sizeOf9 X)<|za X X (d := 31) X<|Y X X (zb (j := 1) st12.sub hc17 X X X Tryz.isAgg9)<|za X X (d := 31) X<|Y X X (zar X Tryz.underlying9)<|za X X (d := 31) X<|Y X X (r_gtr X X)<|Y X X (zC (v := (.bool _)) X X)<|U<|M ?_
     refine zt rfl (fun c23 => ?_) (fun c23 => ?_)
     ·
      replace c23 := of_decide_eq_true c23
      refine zd<|O<|Y X X (zJ X)<|U<|M<|zA<|zL<|zk<|zk<|zL<|zk<|zi Tryz.results7 ?_
      refine ⟨h10, _, rfl, st12.done, ?_⟩
      refine zw ?_
      first | (simp [smallX]; intros; omega) | (simp [smallX, not_all (p := smallR) hr (by simp [smallR]; intros; omega)]; done) | (simp [smallX, not_all (p := smallD) hd (by simp [smallD]; intros; omega)]; done) | (simp [smallX, all_of_take hA (by omega), all_of_take hB (by omega)]; omega)
     ·
      replace c23 := of_decide_eq_false c23
      refine zz<|zI<|M<|O<|Y X X (zo X)<|Y X X (zah X X t_om)<|Y X X (zx X)<|U<|M ?_
      refine ⟨⟨i + 1, h10⟩, ⟨rfl, trivial⟩, ?_, ⟨le11, st12, ?_, ?_⟩, ?_⟩
      ·exact zae
      ·first | omega | (simp; omega)
      ·exact all_take_succ hA hr (by have q := g21; have q2 := c23; simp [smallR]; omega)
      ·show x.rules.length - ((i + 1)) < x.rules.length - i
       omega
   ·
    replace c14 := of_decide_eq_false c14
    refine zab<|zn<|zn<|zT<|M<|zd<|zd<|O<|Y X X (zx X)<|U<|M<|zF ?_
    refine zX [2, 4, 5, 41, 42, 43, 44, 45, 46, 47, 48, 49, 50, 51, 52, 53, 54, 55, 56, 57, 58, 59, 60, 61, 62, 63] (G := Nat × Heap) (fun ⟨k, h24⟩ => [(4, .int .i64 (k : Int))]) (fun ⟨k, h24⟩ w' => Le h10 h24 ∧ St h w h24 w' [] ∧ (k ≤ x.decisions.length) ∧ ((x.decisions.take k).all smallD = true)) (fun ⟨k, h24⟩ => x.decisions.length - k) ⟨0, h10⟩ ⟨rfl, trivial⟩ ⟨Le.refl _, st12, zak, zak⟩ ?_
    rintro ⟨k, h24⟩ _ w27 ⟨le25, st26, hk, hB⟩
    refine zd<|zd<|O<|Y X X (zo X)<|Y X X (zc X Tryz.underlying28 X Tryz.sizeOf26 X)<|Y X X (zb (j := 1) st26.sub (hc5.up (le11.trans le25)) X X X Tryz.isAgg26)<|Y X X (zag (x_f1.up ((le4.trans le11).trans le25)) X Tryz.underlying26)<|Y X X (zal X X)<|U<|M ?_
    refine zt rfl (fun c28 => ?_) (fun c28 => ?_)
    ·
     replace c28 := of_decide_eq_true c28
     refine zz<|M<|zd<|zF<|zd<|O<|Y X X (zc X Tryz.underlying28 X Tryz.sizeOf26 X)<|Y X X (zb (j := 1) st26.sub (hc5.up (le11.trans le25)) X X X Tryz.isAgg26)<|Y X X (zo X) ?_
     have hd : ∃ y_, (x.decisions)[k]? = some y_ := ⟨_, List.getElem?_eq_getElem (by omega)⟩
     obtain ⟨d, hd⟩ := hd
     obtain ⟨b29, o30, _, he32, hc31, hr_d⟩ := Sl.elem (x_f1.up ((le4.trans le11).trans le25)) hd
     obtain ⟨rfl, lu33, ls34, ls35, lu36⟩ := hr_d
     simp only [big] at ls34
     simp only [big] at ls35
     refine Y X X (zp he32 X X (hk := X) (hu := Tryz.underlying26) (hz := Tryz.sizeOf56))<|Y X X (zf st26.sub hc31 X Tryz.isAgg56 Tryz.sizeOf56 X)<|zO st26 Tryz.zeroValue56 X X ?_
     intro b37 w38 st39
     refine zB st39 (k := 0) X X X (zg X (zg X (zg X (zg X (zg X (zg X (zg X (zg X (zg X zU))))))))) Tryz.sizeOf56 X X X ?_
     intro w40 st41
     obtain ⟨h42, le43, hb44, st46⟩ := st41.freeze (k := 0) rfl
     have hc45 := Cells.of hb44
     refine U<|M<|zd<|O<|Y X X (zc X Tryz.underlying56 X Tryz.sizeOf9 X)<|Y X X (zb (j := 2) st46.sub hc45 X X X Tryz.isAgg9)<|Y X X (zar X Tryz.underlying9)<|Y X X (r_gtr X X)<|Y X X (zN X) ?_
     refine zG (d := 57) rfl (fun g47 => ?_) (fun g47 => ?_)
     ·
      replace g47 := of_decide_eq_true g47
      refine E X X (d := 57) X X X<|E X X (d := 57) X X X<|E X X (d := 57) X X X<|E X X (d := 57) X X X<|E X X (d := 57) X X X<|Y X X (zK (v := (.bool _)) X X)<|U<|M ?_
      refine zt rfl (fun c48 => ?_) (fun c48 => ?_)
      ·
       refine zd<|O<|Y X X (zJ X)<|U<|M<|zA<|zL<|zk<|zk<|zL<|zk<|zi Tryz.results7 ?_
       refine ⟨h42, _, rfl, st46.done, ?_⟩
       refine zw ?_
       first | (simp [smallX]; intros; omega) | (simp [smallX, not_all (p := smallR) hr (by simp [smallR]; intros; omega)]; done) | (simp [smallX, not_all (p := smallD) hd (by simp [smallD]; intros; omega)]; done) | (simp [smallX, all_of_take hA (by omega), all_of_take hB (by omega)]; omega)
      ·
       cases c48
     ·
      replace g47 := of_decide_eq_false g47
      refine za X X (d := 57) X<|Y X X (zc X Tryz.underlying56 X Tryz.sizeOf54 X)<|za X X (d := 57) X<|Y X X (zc X Tryz.underlying54 X Tryz.sizeOf9 X)<|za X X (d := 57) X<|Y X X (zb (j := 6) st46.sub hc45 X X X Tryz.isAgg9)<|za X X (d := 57) X<|Y X X (zar X Tryz.underlying9)<|za X X (d := 57) X<|Y X X (r_gtr X X)<|Y X X (zC (v := (.bool _)) X X)<|U<|M ?_
      refine zt rfl (fun c49 => ?_) (fun c49 => ?_)
      ·
       replace c49 := of_decide_eq_true c49
       refine zd<|O<|Y X X (zJ X)<|U<|M<|zA<|zL<|zk<|zk<|zL<|zk<|zi Tryz.results7 ?_
       refine ⟨h42, _, rfl, st46.done, ?_⟩
       refine zw ?_
       first | (simp [smallX]; intros; omega) | (simp [smallX, not_all (p := smallR) hr (by simp [smallR]; intros; omega)]; done) | (simp [smallX, not_all (p := smallD) hd (by simp [smallD]; intros; omega)]; done) | (simp [smallX, all_of_take hA (by omega), all_of_take hB (by omega)]; omega)
      ·
       replace c49 := of_decide_eq_false c49
       refine zz<|zI<|M<|O<|Y X X (zo X)<|Y X X (zah X X t_om)<|Y X X (zx X)<|U<|M ?_
       refine ⟨⟨k + 1, h42⟩, ⟨rfl, trivial⟩, ?_, ⟨(le25.trans le43), st46.take 0, ?_, ?_⟩, ?_⟩
       ·exact zae
       ·first | omega | (simp; omega)
       ·exact all_take_succ hB hd (by have q := g47; have q2 := c49; simp [smallD]; omega)
       ·show x.decisions.length - ((k + 1)) < x.decisions.length - k
        omega
    ·
     replace c28 := of_decide_eq_false c28
     refine zab<|zn<|zn<|zT<|M<|zd<|O<|Y X X (zJ X)<|U<|M<|zA<|zi Tryz.results7 ?_
     refine ⟨h24, _, rfl, st26.done, ?_⟩
     refine zw ?_
     first | (simp [smallX]; intros; omega) | (simp [smallX, not_all (p := smallR) hr (by simp [smallR]; intros; omega)]; done) | (simp [smallX, not_all (p := smallD) hd (by simp [smallD]; intros; omega)]; done) | (simp [smallX, all_of_take hA (by omega), all_of_take hB (by omega)]; omega)
end Go.Pk

namespace Go.Pk
open Go Go.RowKit Go.Proofs
set_option maxRecDepth 4000 in
theorem c_postilref01_Twin {h : Heap} {w : World} (hs : Sub h w) {t : Text} {t_v0 : Value} (t_f0 : Sl LChapter h t_v0 t.chapters) (hsm : smallT t = true) : Calls Tryz.prog 8 #[.agg #[t_v0]] w (Rets h w (fun h' _ res_ => ∃ u0, res_ = .agg #[u0] ∧ Sl LChapter h' u0 (t).chapters)) := by
 refine zM (n := 55) (args := [.agg #[t_v0]]) Tryz.func8 X X X ?_
 have st0 : St h w h w [] := St.start hs
 have t_f0_b := t_f0.le
 refine zd<|O<|zr st0 (cs := [t_v0]) X X X ?_
 intro b1 w2 h3 le4 hc5 st6
 refine zO st6 Tryz.zeroValue24 X X ?_
 intro b7 w8 st9
 refine U<|M<|zd<|O<|zO st9 Tryz.zeroValue24 X X ?_
 intro b10 w11 st12
 refine U<|M<|zd<|zd<|O<|Y X X (zx X)<|U<|M<|zF ?_
 have st16 := st12.snoc
 have f17 := OSl.nil LChapter 93 h3
 refine zX [4, 5, 6, 7, 8, 9, 10, 11, 12, 13, 14, 15, 16, 17, 18, 19, 20, 21, 22, 23, 24, 25, 26, 27, 28, 29, 30, 31, 32, 33, 34, 35, 36, 37, 38, 39, 40, 41, 42, 43, 44, 45, 46, 47, 48, 49, 50, 51, 52, 53] (G := Nat × Value × List (Nat × Obj) × Heap) (fun ⟨i, v_c1_0, o_c1_0, h13⟩ => [(4, .int .i64 (i : Int))]) (fun ⟨i, v_c1_0, o_c1_0, h13⟩ w' => Le h3 h13 ∧ St h w h13 w' [[(b7, .cells (List.toArray [(.slice none 0 0)]) 24)], [(b10, .cells (List.toArray [v_c1_0]) 24)], o_c1_0] ∧ (OSl LChapter 93 h13 v_c1_0 (t.chapters.take i) o_c1_0) ∧ (i ≤ t.chapters.length)) (fun ⟨i, v_c1_0, o_c1_0, h13⟩ => t.chapters.length - i) ⟨0, (.slice none 0 0), [], h3⟩ ⟨rfl, trivial⟩ ⟨Le.refl _, st16, (OSl.to f17 (by simp)), zak⟩ ?_
 rintro ⟨i, v_c1_0, o_c1_0, h13⟩ _ w18 ⟨le14, st15, hO_c1_0, hi⟩
 refine zd<|zd<|O<|Y X X (zo X)<|Y X X (zc X Tryz.underlying24 X Tryz.sizeOf22 X)<|Y X X (zb (j := 0) st15.sub (hc5.up le14) X X X Tryz.isAgg22)<|Y X X (zag (t_f0.up (le4.trans le14)) X Tryz.underlying22)<|Y X X (zal X X)<|U<|M ?_
 refine zt rfl (fun c19 => ?_) (fun c19 => ?_)
 ·
  replace c19 := of_decide_eq_true c19
  refine zz<|M<|zd<|zF<|zd<|O<|Y X X (zc X Tryz.underlying24 X Tryz.sizeOf22 X)<|Y X X (zb (j := 0) st15.sub (hc5.up le14) X X X Tryz.isAgg22)<|Y X X (zo X) ?_
  have hc : ∃ y_, (t.chapters)[i]? = some y_ := ⟨_, List.getElem?_eq_getElem (by omega)⟩
  obtain ⟨c, hc⟩ := hc
  obtain ⟨b20, o21, _, he23, hc22, hr_c⟩ := Sl.elem (t_f0.up (le4.trans le14)) hc
  obtain ⟨v24, rfl, f25⟩ := hr_c
  have f25_b := f25.le
  refine Y X X (zp he23 X X (hk := X) (hu := Tryz.underlying22) (hz := Tryz.sizeOf93)) ?_
  have hcl := smallT_c hsm hc
  have htl := smallT_len hsm
  refine Y X X (zc X Tryz.underlying93 X Tryz.sizeOf3 X)<|Y X X (zb (j := 0) st15.sub hc22 X X X Tryz.isAgg3)<|Y X X (r_build (cs := [.int .i64 (c.id), (.slice none 0 0)]) t_kr)<|zO st15 Tryz.zeroValue93 X X ?_
  intro b26 w27 st28
  refine zB st28 (k := 3) X X X (zg X (zg X zU)) Tryz.sizeOf93 X X X ?_
  intro w29 st30
  refine U<|M<|zd<|zd<|O<|Y X X (zx X)<|U<|M<|zF ?_
  have st34 := st30.snoc
  have f35 := OSl.nil (LSl LStr) 33 h13
  refine zX [6, 21, 22, 23, 24, 25, 26, 27, 28, 29, 30, 31, 32, 33, 34, 35, 36, 37, 38, 39, 40, 41, 42, 43, 44, 45, 46, 47] (G := Nat × Value × List (Nat × Obj) × Heap) (fun ⟨n, v_c3_1, o_c3_1, h31⟩ => [(6, .int .i64 (n : Int))]) (fun ⟨n, v_c3_1, o_c3_1, h31⟩ w' => Le h13 h31 ∧ St h w h31 w' [[(b7, .cells (List.toArray [(.slice none 0 0)]) 24)], [(b10, .cells (List.toArray [v_c1_0]) 24)], o_c1_0, [(b26, .cells (List.toArray [.int .i64 (c.id), v_c3_1]) 93)], o_c3_1] ∧ (OSl (LSl LStr) 33 h31 v_c3_1 (c.lines.take n) o_c3_1) ∧ (n ≤ c.lines.length)) (fun ⟨n, v_c3_1, o_c3_1, h31⟩ => c.lines.length - n) ⟨0, (.slice none 0 0), [], h13⟩ ⟨rfl, trivial⟩ ⟨Le.refl _, st34, (OSl.to f35 (by simp)), zak⟩ ?_
  rintro ⟨n, v_c3_1, o_c3_1, h31⟩ _ w36 ⟨le32, st33, hO_c3_1, hn⟩
  refine zd<|zd<|O<|Y X X (zo X)<|Y X X (zc X Tryz.underlying24 X Tryz.sizeOf22 X)<|Y X X (zb (j := 0) st33.sub (hc5.up (le14.trans le32)) X X X Tryz.isAgg22)<|Y X X (zo X)<|Y X X (zp he23 X X (hk := X) (hu := Tryz.underlying22) (hz := Tryz.sizeOf93))<|Y X X (zc X Tryz.underlying93 X Tryz.sizeOf91 X)<|Y X X (zb (j := 1) st33.sub (hc22.up le32) X X X Tryz.isAgg91)<|Y X X (zag (f25.up le32) X Tryz.underlying91)<|Y X X (zal X X)<|U<|M ?_
  refine zt rfl (fun c37 => ?_) (fun c37 => ?_)
  ·
   replace c37 := of_decide_eq_true c37
   refine zz<|M<|zd<|zF ?_
   have hln : ∃ y_, (c.lines)[n]? = some y_ := ⟨_, List.getElem?_eq_getElem (by omega)⟩
   obtain ⟨ln, hln⟩ := hln
   obtain ⟨b38, o39, _, he41, hc40, hr_ln⟩ := Sl.elem (f25.up le32) hln
   obtain ⟨v42, rfl, f43⟩ := hr_ln
   have f43_b := f43.le
   have hll := smallT_l hsm hc hln
   refine zaa (er := ([1], [], [], [], 0)) (dsts := [32, 33, 34, 35, 36, 37, 38, 39, 40, 41, 42, 43, 44, 45, 46, 47]) st33 Tryz.mixed<|zh 0 [] X t_kr t_kr X X (fun hD wD τD hL hS hO  => (zc X Tryz.underlying93 X Tryz.sizeOf91 X))<|zh 1 [0] X t_kr t_kr X X (fun hD wD τD hL hS hO _ _ => (zaq ((hO X).get (k := 3) X) X X Tryz.isAgg91)) ?_
   refine zQ 2 (.res (fun _ res_ => ∃ p, res_ = .slice p 0 0) (fun _ _ _ _ f => f)) [] rfl t_kr t_kr ?_ ?_
   ·
    intro hD wD τD hL hS hO 
    have st44 := St.start hS
    refine OpsL.sliceZ st44 X ⟨_, Tryz.sizeOf9⟩ Tryz.underlying33 ?_
    intro v45 w46 f47 st48
    exact U ⟨_, _, rfl, st48, _, rfl, f47⟩
   refine zh 3 [] X t_kr t_kr X X (fun hD wD τD hL hS hO  => (zc X Tryz.underlying24 X Tryz.sizeOf22 X))<|zh 4 [0] X t_kr t_kr X X (fun hD wD τD hL hS hO _ _ => (zb (j := 0) (hL.sub hS) (hc5.up (le14.trans le32)) X X X Tryz.isAgg22))<|zh 5 [] X t_kr t_kr X X (fun hD wD τD hL hS hO  => (zo X))<|zh 6 [1, 0] X t_kr t_kr X X (fun hD wD τD hL hS hO _ _ _ _ => (zp he23 X X (hk := X) (hu := Tryz.underlying22) (hz := Tryz.sizeOf93)))<|zh 7 [0] X t_kr t_kr X X (fun hD wD τD hL hS hO _ _ => (zc X Tryz.underlying93 X Tryz.sizeOf91 X))<|zh 8 [0] X t_kr t_kr X X (fun hD wD τD hL hS hO _ _ => (zb (j := 1) (hL.sub hS) (hc22.up le32) X X X Tryz.isAgg91))<|zh 9 [] X t_kr t_kr X X (fun hD wD τD hL hS hO  => (zo X))<|zh 10 [1, 0] X t_kr t_kr X X (fun hD wD τD hL hS hO _ _ _ _ => (zp he41 X X (hk := X) (hu := Tryz.underlying91) (hz := Tryz.sizeOf33)))<|zh 11 [0] X t_kr t_kr X X (fun hD wD τD hL hS hO _ _ => (zb (j := 0) (hL.sub hS) hc40 X X X Tryz.isAgg33)) ?_
   refine zQ 12 (.res (fun h' res_ => Sl LStr h' res_ ln) (fun _ _ _ hl f => f.up hl)) [9, 0] rfl t_kr t_kr ?_ ?_
   ·
    intro hD wD τD hL hS hO gv2_ gf2_ _ _
    have st49 := St.start hS
    have st50 := st49.snoc
    have f51 := OSl.nil LStr 9 hD
    have f52 := OSl.nil0 LStr 9 hD gf2_
    refine zP (k := 0) (nb := 16) st50 f52 rfl (f43.up hL) rfl rfl rfl Tryz.underlying33 Tryz.info9 rfl rfl rfl (by decide) rfl (by simp only [List.length_take, List.length_append, List.length_cons, List.length_nil]; omega) (by simp only [List.length_take, List.length_append, List.length_cons, List.length_nil]; omega) ?_
    intro v53 o54 w55 _ e56 f57 st58
    subst e56
    obtain ⟨h59, le60, f61, st62⟩ := OSl.freeze (k := 0) st58 f57 rfl (by simp only [List.length_take, List.length_append, List.length_cons, List.length_nil]; omega)
    exact U ⟨_, _, rfl, st62.done, _, rfl, f61⟩
   refine zQ 13 (.res (fun h' res_ => Sl (LSl LStr) h' res_ ([ln])) (fun _ _ _ hl f => f.up hl)) [0] rfl t_kr t_kr ?_ ?_
   ·
    intro hD wD τD hL hS hO gv12_0 gf12_0
    have st63 := St.start hS
    refine zV (L := (LSl LStr)) (xs := [ln]) (cs := [gv12_0]) st63 (Enc.cons (L := (LSl LStr)) (vs := [gv12_0]) (x := ln) (h := hD) (⟨_, rfl, gf12_0⟩) Enc.nil) rfl rfl rfl Tryz.underlying91 Tryz.info33 rfl rfl rfl (by obtain ⟨_, _, rfl⟩ := Sl.form gf12_0; kernel_rfl) ?_
    intro v64 w65 h68 le69 f66 st67
    exact U ⟨_, _, rfl, st67, _, rfl, f66⟩
   refine zaf<|zh 15 [14, 13, 12, 11, 10, 9, 8, 7, 6, 5, 4, 3, 2, 1, 0] X t_kr t_kr X X (fun hD wD τD hL hS hO _ _ _ _ gv2_ gf2_ _ _ _ _ _ _ _ _ _ _ _ _ _ _ _ _ _ _ gv12_0 gf12_0 gv13_0 gf13_0 => (zc X Tryz.underlying93 X Tryz.sizeOf91 X))<|zaf<|zan X X X X X X ⟨t_kr, X, t_kr, X, t_kr, X, X, t_kr, (zY X (zY X cx_nil))⟩ ?_
   intro hE71 w72 _ le73 st74 _ _ gv13_0x70 gf13_0x70 gv12_0x70 gf12_0x70
   refine zP (k := 4) (nb := 24) st74 (hO_c3_1.up le73) rfl gf13_0x70 rfl rfl rfl Tryz.underlying91 Tryz.info33 rfl rfl rfl (by decide) rfl (by simp only [List.length_take, List.length_append, List.length_cons, List.length_nil]; omega) (by simp only [List.length_take, List.length_append, List.length_cons, List.length_nil]; omega) ?_
   intro v75 o76 w77 _ e78 f79 st80
   subst e78
   refine U ⟨_, rfl, _, _, Le.refl _, st80, ?_⟩
   intro hE82 w83 _ le84 st85 _ _ _ _ _ _ gv2_x81 gf2_x81 _ _ _ _ _ _ _ _ _ _ _ _ _ _ _ _ _ _ gv12_0x81 gf12_0x81 gv13_0x81 gf13_0x81
   refine zas st85 (k := 3) X X (v := v75) X f79.one Tryz.sizeOf91 X X X ?_
   intro w86 st87
   refine U ⟨undef, rfl, _, _, Le.refl _, st87, ?_⟩
   intro hE88 w89 _ le90 st91 _ _ _ _ gv2_x92 gf2_x92 _ _ _ _ _ _ _ _ _ _ _ _ _ _ _ _ _ _ gv12_0x92 gf12_0x92 gv13_0x92 gf13_0x92 _ _
   refine AllDeps.fin X<|zI<|M<|O<|Y X X (zo X)<|Y X X (zah X X t_om)<|Y X X (zx X)<|U<|M ?_
   refine ⟨⟨n + 1, v75, o76, hE88⟩, ⟨rfl, trivial⟩, ?_, ⟨(((le32.trans le73).trans le84).trans le90), st91, ?_, ?_⟩, ?_⟩
   ·exact zae
   ·refine OSl.to (f79.up (le84.trans le90)) ?_
    rw [take_snoc hln]
   ·first | omega | (simp; omega)
   ·show c.lines.length - ((n + 1)) < c.lines.length - n
    omega
  ·
   replace c37 := of_decide_eq_false c37
   refine zab<|zn<|zn<|zT<|M<|O<|Y X X (zc X Tryz.underlying24 X Tryz.sizeOf22 X)<|Y X X (zaq (st33.get (k := 1) X) X X Tryz.isAgg22)<|Y X X (r_load_ball (st33.get (k := 3) X) X Tryz.isAgg93 Tryz.sizeOf93 X) ?_
   obtain ⟨h93, le94, f95, st96⟩ := OSl.freeze (k := 4) st33 hO_c3_1 rfl (by simp only [List.length_take, List.length_append, List.length_cons, List.length_nil]; omega)
   refine zV (L := LChapter) (xs := [(Chapter.mk (c.id) (c.lines.take n))]) (cs := [.int .i64 (c.id), v_c3_1]) st96 (Enc.cons (L := LChapter) (vs := [.int .i64 (c.id), v_c3_1]) (x := (Chapter.mk (c.id) (c.lines.take n))) (h := h93) (⟨_, X, f95⟩) Enc.nil) X X X Tryz.underlying22 Tryz.info93 X X X t_kr ?_
   intro v97 w98 h101 le102 f99 st100
   refine zP (k := 2) (nb := 32) st100 (hO_c1_0.up ((le32.trans le94).trans le102)) rfl f99 rfl rfl rfl Tryz.underlying22 Tryz.info93 rfl rfl rfl (by decide) rfl (by simp only [List.length_take, List.length_append, List.length_cons, List.length_nil]; omega) (by simp only [List.length_take, List.length_append, List.length_cons, List.length_nil]; omega) ?_
   intro v103 o104 w105 _ e106 f107 st108
   subst e106
   refine Y X X (zc X Tryz.underlying24 X Tryz.sizeOf22 X)<|zas st108 (k := 1) X X (v := v103) X f107.one Tryz.sizeOf22 X X X ?_
   intro w109 st110
   refine U<|zI<|M<|O<|Y X X (zo X)<|Y X X (zah X X t_om)<|Y X X (zx X)<|U<|M ?_
   refine ⟨⟨i + 1, v103, o104, h101⟩, ⟨rfl, trivial⟩, ?_, ⟨(((le14.trans le32).trans le94).trans le102), st110.take 3, ?_, ?_⟩, ?_⟩
   ·exact zae
   ·refine OSl.to f107 ?_
    rw [take_snoc hc, List.take_of_length_le (show c.lines.length ≤ n by omega)]
   ·first | omega | (simp; omega)
   ·show t.chapters.length - ((i + 1)) < t.chapters.length - i
    omega
 ·
  replace c19 := of_decide_eq_false c19
  refine zab<|zn<|zn<|zT<|M<|zd<|O<|Y X X (r_load_ball (st15.get (k := 1) X) X Tryz.isAgg24 Tryz.sizeOf24 X)<|zB st15 (k := 0) X X X (zg hO_c1_0.one zU) Tryz.sizeOf24 X X X ?_
  intro w111 st112
  obtain ⟨h113, le114, hb115, st117⟩ := st112.freeze (k := 0) rfl
  have hc116 := Cells.of hb115
  refine U<|M<|zA<|Post.retcellF Tryz.results8 X Tryz.isAgg24 Tryz.sizeOf24 X st117.sub hc116 ?_
  obtain ⟨h118, le119, f120, st121⟩ := OSl.freeze (k := 2) st117 (hO_c1_0.up le114) rfl (by simp only [List.length_take, List.length_append, List.length_cons, List.length_nil]; omega)
  refine ⟨h118, _, rfl, st121.done, ?_⟩
  refine ⟨_, ?_, Sl.to f120 ?_⟩
  ·rfl
  ·rw [List.take_of_length_le (by omega)]
set_option maxRecDepth 4000 in
theorem c_postilref04_Twin {h : Heap} {w : World} (hs : Sub h w) {x : Lexicon} {x_v0 : Value} (x_f0 : Sl LRule h x_v0 x.rules) {x_v1 : Value} (x_f1 : Sl LDecision h x_v1 x.decisions) (hsm : smallX x = true) : Calls Tryz.prog 9 #[.agg #[x_v0, x_v1]] w (Rets h w (fun h' _ res_ => ∃ u0 u1, res_ = .agg #[u0, u1] ∧ Sl LRule h' u0 (x).rules ∧ Sl LDecision h' u1 (x).decisions)) := by
 refine zM (n := 14) (args := [.agg #[x_v0, x_v1]]) Tryz.func9 X X X ?_
 have st0 : St h w h w [] := St.start hs
 have x_f0_b := x_f0.le
 have x_f1_b := x_f1.le
 refine zd<|O<|OpsL.boxO st0 (cs := [x_v0, x_v1]) X X X ?_
 intro b1 w2 st3
 refine zO st3 Tryz.zeroValue28 X X ?_
 intro b4 w5 st6
 refine U<|M<|zd<|O<|OpsL.sliceE (L := LRule) st6 X ⟨_, Tryz.sizeOf70⟩ Tryz.underlying25 ?_
 intro v7 o8 w9 f10 st11
 refine Y X X (zc X Tryz.underlying28 X Tryz.sizeOf25 X)<|Y X X (zaq (st11.get (k := 0) X) X X Tryz.isAgg25) ?_
 have hln := smallX_len hsm
 refine zP (k := 2) (nb := 40) st11 f10 rfl x_f0 rfl rfl rfl Tryz.underlying25 Tryz.info70 rfl rfl rfl (by decide) rfl (by simp only [List.length_nil, List.nil_append]; omega) (by simp only [List.length_nil, List.nil_append]; omega) ?_
 intro v12 o13 w14 _ e15 f16 st17
 subst e15
 refine Y X X (zc X Tryz.underlying28 X Tryz.sizeOf25 X)<|zas st17 (k := 0) X X (v := v12) X f16.one Tryz.sizeOf25 X X X ?_
 intro w18 st19
 refine U<|M<|zd<|O<|OpsL.sliceE (L := LDecision) st19 X ⟨_, Tryz.sizeOf56⟩ Tryz.underlying26 ?_
 intro v20 o21 w22 f23 st24
 refine Y X X (zc X Tryz.underlying28 X Tryz.sizeOf26 X)<|Y X X (zaq (st24.get (k := 0) X) X X Tryz.isAgg26) ?_
 refine zP (k := 3) (nb := 88) st24 f23 rfl x_f1 rfl rfl rfl Tryz.underlying26 Tryz.info56 rfl rfl rfl (by decide) rfl (by simp only [List.length_nil, List.nil_append]; omega) (by simp only [List.length_nil, List.nil_append]; omega) ?_
 intro v25 o26 w27 _ e28 f29 st30
 subst e28
 refine Y X X (zc X Tryz.underlying28 X Tryz.sizeOf26 X)<|zas st30 (k := 0) X X (v := v25) X f29.one Tryz.sizeOf26 X X X ?_
 intro w31 st32
 refine U<|M<|zd<|O<|Y X X (r_load_ball (st32.get (k := 0) X) X Tryz.isAgg28 Tryz.sizeOf28 X)<|zB st32 (k := 1) X X X (zg f16.one (zg f29.one zU)) Tryz.sizeOf28 X X X ?_
 intro w33 st34
 obtain ⟨h35, le36, hb37, st39⟩ := st34.freeze (k := 1) rfl
 have hc38 := Cells.of hb37
 refine U<|M<|zA<|Post.retcellF Tryz.results9 X Tryz.isAgg28 Tryz.sizeOf28 X st39.sub hc38 ?_
 obtain ⟨h40, le41, f42, st43⟩ := OSl.freeze (k := 2) st39 (f16.up le36) rfl (by simp only [List.nil_append]; omega)
 obtain ⟨h44, le45, f46, st47⟩ := OSl.freeze (k := 3) st43 (f29.up (le36.trans le41)) rfl (by simp only [List.nil_append]; omega)
 refine ⟨h44, _, rfl, st47.done, ?_⟩
 refine ⟨_, _, ?_, Sl.to (f42.up le45) ?_, Sl.to f46 ?_⟩
 ·rfl
 ·simp
 ·simp
end Go.Pk

namespace Go.Pk
open Go Go.RowKit Go.Proofs
set_option maxRecDepth 4000 in
set_option maxHeartbeats 4000000 in
theorem c_postillaw04_StemTells {h : Heap} {w : World} (hs : Sub h w) {t : Text} {t_v0 : Value} (t_f0 : Sl LChapter h t_v0 t.chapters) {x : Lexicon} {x_v0 : Value} (x_f0 : Sl LRule h x_v0 x.rules) {x_v1 : Value} (x_f1 : Sl LDecision h x_v1 x.decisions) (word : Str) (word_le : word.length ≤ 281474976710656) (K0 : Cells h 0 0 Tryz.glob0) : Calls Tryz.prog 3 #[.agg #[t_v0], .agg #[x_v0, x_v1], strV word] w (Rets h w (fun _ _ res_ => res_ = .bool (true))) := by
 refine zM (n := 95) (args := [.agg #[t_v0], .agg #[x_v0, x_v1], strV word]) Tryz.func3 X X X ?_
 have st0 : St h w h w [] := St.start hs
 have t_f0_b := t_f0.le
 have x_f0_b := x_f0.le
 have x_f1_b := x_f1.le
 refine zd<|O<|zr st0 (cs := [t_v0]) X X X ?_
 intro b1 w2 h3 le4 hc5 st6
 refine zr st6 (cs := [x_v0, x_v1]) X X X ?_
 intro b7 w8 h9 le10 hc11 st12
 refine Y X X (zJ X)<|U<|M<|zd<|zd<|O<|Y X X (zf st12.sub (hc5.up le10) X Tryz.isAgg24 Tryz.sizeOf24 X)<|zm st12 X X X Tryz.call6 X (c_postilref01_Great st12.sub (t := t) (t_f0.up (le4.trans le10))) ?_
 intro r13 w14 h15 le16 st17 q18
 obtain rfl := q18
 refine Y X X (zN X) ?_
 refine zG (d := 19) rfl (fun g19 => ?_) (fun g19 => ?_)
 ·
  refine E X X (d := 19) X X X<|E X X (d := 19) X X X<|Y X X (zK (v := (.bool _)) X X)<|Y X X (zN X)<|E X X (d := 23) X X X<|E X X (d := 23) X X X<|E X X (d := 23) X X X<|Y X X (zK (v := (.bool _)) X X)<|U<|M ?_
  refine zt rfl (fun c20 => ?_) (fun c20 => ?_)
  ·
   refine zd<|O<|Y X X (zJ X)<|U<|M<|zA<|zk<|zi Tryz.results3 ?_
   refine ⟨h15, _, rfl, st17.done, ?_⟩
   refine zw ?_
   simp_all
  ·
   cases c20
 ·
  refine za X X (d := 19) X<|Y X X (zf st17.sub (hc11.up le16) X Tryz.isAgg28 Tryz.sizeOf28 X)<|za X X (d := 19) X<|zm st17 X X X Tryz.call7 X (c_postilref04_Great st17.sub (x := x) (x_f0.up ((le4.trans le10).trans le16)) (x_f1.up ((le4.trans le10).trans le16))) ?_
  intro r21 w22 h23 le24 st25 q26
  obtain rfl := q26
  refine Y X X (zC (v := (.bool _)) X X)<|Y X X (zN X) ?_
  refine zG (d := 23) rfl (fun g27 => ?_) (fun g27 => ?_)
  ·
   refine E X X (d := 23) X X X<|E X X (d := 23) X X X<|E X X (d := 23) X X X<|Y X X (zK (v := (.bool _)) X X)<|U<|M ?_
   refine zt rfl (fun c28 => ?_) (fun c28 => ?_)
   ·
    refine zd<|O<|Y X X (zJ X)<|U<|M<|zA<|zk<|zi Tryz.results3 ?_
    refine ⟨h23, _, rfl, st25.done, ?_⟩
    refine zw ?_
    simp_all
   ·
    cases c28
  ·
   refine za X X (d := 23) X<|Y X X (r_mvS X)<|za X X (d := 23) X<|Y X X (zar X Tryz.underlying9)<|za X X (d := 23) X<|Y X X (r_gtr X X)<|Y X X (zC (v := (.bool _)) X X)<|U<|M ?_
   refine zt rfl (fun c29 => ?_) (fun c29 => ?_)
   ·
    replace c29 := of_decide_eq_true c29
    refine zd<|O<|Y X X (zJ X)<|U<|M<|zA<|zk<|zi Tryz.results3 ?_
    refine ⟨h23, _, rfl, st25.done, ?_⟩
    refine zw ?_
    simp_all
   ·
    replace c29 := of_decide_eq_false c29
    refine zz<|M<|zd<|zaa (er := ([], [], [], [], 0)) (dsts := [28, 29, 30, 31, 7, 8]) st25 Tryz.mixed<|zh 0 [] X t_kr t_kr X X (fun hD wD τD hL hS hO  => (zf (hL.sub hS) (hc5.up ((le10.trans le16).trans le24)) X Tryz.isAgg24 Tryz.sizeOf24 X)) ?_
    refine zQ 1 (.res (fun h' res_ => ∃ gv1_0, res_ = .agg #[gv1_0] ∧ Sl LChapter h' gv1_0 ((t)).chapters) (by rintro _ _ _ hl ⟨gv1_0, e_, gf1_0⟩; exact ⟨gv1_0, e_, gf1_0.up hl⟩)) [0] rfl t_kr t_kr ?_ ?_
    ·
     intro hD wD τD hL hS hO _ _
     have st30 := St.start hS
     refine zm st30 rfl rfl rfl Tryz.call8 rfl (c_postilref01_Twin st30.sub (t := t) (t_f0.up ((((le4.trans le10).trans le16).trans le24).trans hL)) (by simpa using g19)) ?_
     intro r31 w32 h33 le34 st35 q36
     obtain ⟨v37, rfl, f38⟩ := q36
     have f38_b := f38.le
     exact U ⟨_, _, rfl, st35, _, rfl, ⟨_, rfl, f38⟩⟩
    refine zh 2 [] X t_kr t_kr X X (fun hD wD τD hL hS hO  => (zf (hL.sub hS) (hc11.up (le16.trans le24)) X Tryz.isAgg28 Tryz.sizeOf28 X)) ?_
    refine zQ 3 (.res (fun h' res_ => ∃ gv3_0 gv3_1, res_ = .agg #[gv3_0, gv3_1] ∧ Sl LRule h' gv3_0 ((x)).rules ∧ Sl LDecision h' gv3_1 ((x)).decisions) (by rintro _ _ _ hl ⟨gv3_0, gv3_1, e_, gf3_0, gf3_1⟩; exact ⟨gv3_0, gv3_1, e_, gf3_0.up hl, gf3_1.up hl⟩)) [0, 1] rfl t_kr t_kr ?_ ?_
    ·
     intro hD wD τD hL hS hO _ _ gv1_ gf1_
     obtain ⟨gv1_0, rfl, gf1_0⟩ := gf1_
     have st39 := St.start hS
     refine zm st39 rfl rfl rfl Tryz.call9 rfl (c_postilref04_Twin st39.sub (x := x) (x_f0.up ((((le4.trans le10).trans le16).trans le24).trans hL)) (x_f1.up ((((le4.trans le10).trans le16).trans le24).trans hL)) (by simpa using g27)) ?_
     intro r40 w41 h42 le43 st44 q45
     obtain ⟨v46, v48, rfl, f47, f49⟩ := q45
     have f47_b := f47.le
     have f49_b := f49.le
     exact U ⟨_, _, rfl, st44, _, rfl, ⟨_, _, rfl, f47, f49⟩⟩
    refine Drw.al Tryz.zeroValue24 X<|Drw.al Tryz.zeroValue28 X<|zaf<|zaf<|zan X X X X X X ⟨t_kr, X, t_kr, X, t_kr, X, X, t_kr, (zY X (zY X cx_nil))⟩ ?_
    intro b50
    intro b51
    intro hE53 w54 _ le55 st56 gv3_x52 gf3_x52 _ _ gv1_x52 gf1_x52
    obtain ⟨gv3_0x52, gv3_1x52, rfl, gf3_0x52, gf3_1x52⟩ := gf3_x52
    obtain ⟨gv1_0x52, rfl, gf1_0x52⟩ := gf1_x52
    refine zB st56 (k := 0) X X X (zg gf1_0x52.one zU) Tryz.sizeOf24 X X X ?_
    intro w57 st58
    obtain ⟨h59, le60, hb61, st63⟩ := st58.freeze (k := 0) rfl
    have hc62 := Cells.of hb61
    refine U ⟨undef, rfl, _, _, le60, st63, ?_⟩
    intro hE65 w66 _ le67 st68 _ _ gv1_x64 gf1_x64 _ _ gv3_x64 gf3_x64
    obtain ⟨gv1_0x64, rfl, gf1_0x64⟩ := gf1_x64
    obtain ⟨gv3_0x64, gv3_1x64, rfl, gf3_0x64, gf3_1x64⟩ := gf3_x64
    refine zB st68 (k := 1) X X X (zg gf3_0x64.one (zg gf3_1x64.one zU)) Tryz.sizeOf28 X X X ?_
    intro w69 st70
    obtain ⟨h71, le72, hb73, st75⟩ := st70.freeze (k := 1) rfl
    have hc74 := Cells.of hb73
    refine U ⟨undef, rfl, _, _, le72, st75, ?_⟩
    intro hE76 w77 _ le78 st79 _ _ gv1_x80 gf1_x80 _ _ gv3_x80 gf3_x80
    obtain ⟨gv1_0x80, rfl, gf1_0x80⟩ := gf1_x80
    obtain ⟨gv3_0x80, gv3_1x80, rfl, gf3_0x80, gf3_1x80⟩ := gf3_x80
    refine AllDeps.fin X<|M<|zd<|O<|Y X X (zf st79.sub (hc62.up ((le67.trans le72).trans le78)) X Tryz.isAgg24 Tryz.sizeOf24 X)<|Y X X (zf st79.sub (hc74.up le78) X Tryz.isAgg28 Tryz.sizeOf28 X)<|Y X X (r_mvS X)<|zm st79 X X X Tryz.call10 X (c_stem_Steps st79.sub (t := (t)) (gf1_0x52.up (((le60.trans le67).trans le72).trans le78)) (x := (x)) (gf3_0x64.up (le72.trans le78)) (gf3_1x64.up (le72.trans le78)) _ zZ (K0.up ((((((((le4.trans le10).trans le16).trans le24).trans le55).trans le60).trans le67).trans le72).trans le78))) ?_
    intro r81 w82 h83 le84 st85 q86
    obtain ⟨v87, rfl, f88⟩ := q86
    have f88_b := f88.le
    refine Y X X (r_mvT X)<|Y X X (zH (v := v87) X X)<|Y X X (zH (v := (.int _ _)) X X)<|Y X X (zD (v := v87) X)<|Y X X (zx X)<|U<|M<|zd<|O<|Y X X (zf st85.sub (hc5.up ((((((((le10.trans le16).trans le24).trans le55).trans le60).trans le67).trans le72).trans le78).trans le84)) X Tryz.isAgg24 Tryz.sizeOf24 X)<|Y X X (zf st85.sub (hc11.up (((((((le16.trans le24).trans le55).trans le60).trans le67).trans le72).trans le78).trans le84)) X Tryz.isAgg28 Tryz.sizeOf28 X)<|Y X X (r_mvS X)<|zm st85 X X X Tryz.call11 X (c_postilref04_Steps st85.sub (t := t) (t_f0.up (((((((((le4.trans le10).trans le16).trans le24).trans le55).trans le60).trans le67).trans le72).trans le78).trans le84)) (x := x) (x_f0.up (((((((((le4.trans le10).trans le16).trans le24).trans le55).trans le60).trans le67).trans le72).trans le78).trans le84)) (x_f1.up (((((((((le4.trans le10).trans le16).trans le24).trans le55).trans le60).trans le67).trans le72).trans le78).trans le84)) _ zZ) ?_
    intro r89 w90 h91 le92 st93 q94
    obtain ⟨v95, rfl, f96⟩ := q94
    have f96_b := f96.le
    refine Y X X (r_mvT X)<|Y X X (zH (v := v95) X X)<|Y X X (zH (v := (.int _ _)) X X)<|Y X X (zD (v := v95) X)<|Y X X (zx X)<|U<|M<|zd<|O<|Y X X (zf st93.sub (hc62.up ((((le67.trans le72).trans le78).trans le84).trans le92)) X Tryz.isAgg24 Tryz.sizeOf24 X)<|Y X X (zf st93.sub (hc74.up ((le78.trans le84).trans le92)) X Tryz.isAgg28 Tryz.sizeOf28 X)<|zm st93 X X X Tryz.call12 X (c_stem_Standing st93.sub (t := (t)) (gf1_0x52.up (((((le60.trans le67).trans le72).trans le78).trans le84).trans le92)) (x := (x)) (gf3_0x64.up (((le72.trans le78).trans le84).trans le92)) (gf3_1x64.up (((le72.trans le78).trans le84).trans le92)) (K0.up ((((((((((le4.trans le10).trans le16).trans le24).trans le55).trans le60).trans le67).trans le72).trans le78).trans le84).trans le92))) ?_
    intro r97 w98 h99 le100 st101 q102
    obtain ⟨v103, rfl, f104⟩ := q102
    have f104_b := f104.le
    refine Y X X (r_mvT X)<|Y X X (zH (v := v103) X X)<|Y X X (zH (v := (.int _ _)) X X)<|Y X X (zD (v := v103) X)<|Y X X (zx X)<|U<|M<|zd<|O<|Y X X (zf st101.sub (hc5.up ((((((((((le10.trans le16).trans le24).trans le55).trans le60).trans le67).trans le72).trans le78).trans le84).trans le92).trans le100)) X Tryz.isAgg24 Tryz.sizeOf24 X)<|Y X X (zf st101.sub (hc11.up (((((((((le16.trans le24).trans le55).trans le60).trans le67).trans le72).trans le78).trans le84).trans le92).trans le100)) X Tryz.isAgg28 Tryz.sizeOf28 X)<|zm st101 X X X Tryz.call13 X (c_postilref04_Standing st101.sub (t := t) (t_f0.up (((((((((((le4.trans le10).trans le16).trans le24).trans le55).trans le60).trans le67).trans le72).trans le78).trans le84).trans le92).trans le100)) (x := x) (x_f0.up (((((((((((le4.trans le10).trans le16).trans le24).trans le55).trans le60).trans le67).trans le72).trans le78).trans le84).trans le92).trans le100)) (x_f1.up (((((((((((le4.trans le10).trans le16).trans le24).trans le55).trans le60).trans le67).trans le72).trans le78).trans le84).trans le92).trans le100))) ?_
    intro r105 w106 h107 le108 st109 q110
    obtain ⟨v111, rfl, f112⟩ := q110
    have f112_b := f112.le
    refine Y X X (r_mvT X)<|Y X X (zH (v := v111) X X)<|Y X X (zH (v := (.int _ _)) X X)<|Y X X (zD (v := v111) X)<|Y X X (zx X)<|U<|M<|zd<|zai Tryz.mixed t_kr (Cls h107 _) (Cls.drew st109)<|ze X X (fun _ hC => (zf hC.sub (hc62.up ((((((le67.trans le72).trans le78).trans le84).trans le92).trans le100).trans le108)) X Tryz.isAgg24 Tryz.sizeOf24 X))<|ze X X (fun _ hC => (zf hC.sub (hc74.up ((((le78.trans le84).trans le92).trans le100).trans le108)) X Tryz.isAgg28 Tryz.sizeOf28 X))<|OpsQ.calls X X (fun _ => zaj X Tryz.call14 X) (fun _ hC => Rets.quiet hC (c_stem_Check hC.sub (t := (t)) (gf1_0x52.up (((((((le60.trans le67).trans le72).trans le78).trans le84).trans le92).trans le100).trans le108)) (x := (x)) (gf3_0x64.up (((((le72.trans le78).trans le84).trans le92).trans le100).trans le108)) (gf3_1x64.up (((((le72.trans le78).trans le84).trans le92).trans le100).trans le108)) (K0.up ((((((((((((le4.trans le10).trans le16).trans le24).trans le55).trans le60).trans le67).trans le72).trans le78).trans le84).trans le92).trans le100).trans le108))))<|ze X X (fun _ hC => (zf hC.sub (hc5.up (((((((((((le10.trans le16).trans le24).trans le55).trans le60).trans le67).trans le72).trans le78).trans le84).trans le92).trans le100).trans le108)) X Tryz.isAgg24 Tryz.sizeOf24 X))<|ze X X (fun _ hC => (zf hC.sub (hc11.up ((((((((((le16.trans le24).trans le55).trans le60).trans le67).trans le72).trans le78).trans le84).trans le92).trans le100).trans le108)) X Tryz.isAgg28 Tryz.sizeOf28 X))<|OpsQ.calls X X (fun _ => zaj X Tryz.call15 X) (fun _ hC => Rets.quiet hC (zam hC.sub (t := t) (t_f0.up ((((((((((((le4.trans le10).trans le16).trans le24).trans le55).trans le60).trans le67).trans le72).trans le78).trans le84).trans le92).trans le100).trans le108)) (x := x) (x_f0.up ((((((((((((le4.trans le10).trans le16).trans le24).trans le55).trans le60).trans le67).trans le72).trans le78).trans le84).trans le92).trans le100).trans le108)) (x_f1.up ((((((((((((le4.trans le10).trans le16).trans le24).trans le55).trans le60).trans le67).trans le72).trans le78).trans le84).trans le92).trans le100).trans le108))))<|ze X X (fun _ _ => (r_eql X X))<|ze X X (fun _ _ => (zN X)) ?_
    refine OpsQ.split (d := 65) rfl (fun g113 => ?_) (fun g113 => ?_)
    ·
     replace g113 := of_decide_eq_true g113
     refine zq X X (d := 65) X<|ze X X (fun _ _ => (zy (v := v87) X))<|zq X X (d := 65) X<|ze X X (fun _ _ => (zy (v := v95) X))<|zq X X (d := 65) X<|OpsQ.calls X X (fun _ => zaj X Tryz.call16 X) (fun _ hC => Rets.quiet hC (c_postilref01_SameWords hC.sub (f88.up ((le92.trans le100).trans le108)) (f96.up (le100.trans le108))))<|ze X X (fun _ _ => (zK (v := (.bool _)) X X))<|ze X X (fun _ _ => (zN X)) ?_
     refine OpsQ.split (d := 70) rfl (fun g114 => ?_) (fun g114 => ?_)
     ·
      refine zq X X (d := 70) X<|ze X X (fun _ _ => (zo X))<|zq X X (d := 70) X<|ze X X (fun _ _ => (zo X))<|zq X X (d := 70) X<|ze X X (fun _ _ => (r_eql X X))<|ze X X (fun _ _ => (zK (v := (.bool _)) X X))<|ze X X (fun _ _ => (zN X)) ?_
      refine OpsQ.split (d := 75) rfl (fun g115 => ?_) (fun g115 => ?_)
      ·
       replace g115 := of_decide_eq_true g115
       refine zq X X (d := 75) X<|ze X X (fun _ _ => (zy (v := v103) X))<|zq X X (d := 75) X<|ze X X (fun _ _ => (zy (v := v111) X))<|zq X X (d := 75) X<|OpsQ.calls X X (fun _ => zaj X Tryz.call17 X) (fun _ hC => Rets.quiet hC (c_postillaw04_sameInts hC.sub (f104.up le108) f112))<|ze X X (fun _ _ => (zK (v := (.bool _)) X X))<|ze X X (fun _ _ => (zN X)) ?_
       refine OpsQ.split (d := 80) rfl (fun g116 => ?_) (fun g116 => ?_)
       ·
        refine zq X X (d := 80) X<|ze X X (fun _ _ => (zo X))<|zq X X (d := 80) X<|ze X X (fun _ _ => (zo X))<|zq X X (d := 80) X<|ze X X (fun _ _ => (r_eql X X))<|ze X X (fun _ _ => (zK (v := (.bool _)) X X))<|ze X X (fun _ _ => (zN X)) ?_
        refine OpsQ.split (d := 85) rfl (fun g117 => ?_) (fun g117 => ?_)
        ·
         replace g117 := of_decide_eq_true g117
         refine zq X X (d := 85) X<|ze X X (fun _ hC => (zf hC.sub (hc62.up ((((((le67.trans le72).trans le78).trans le84).trans le92).trans le100).trans le108)) X Tryz.isAgg24 Tryz.sizeOf24 X))<|zq X X (d := 85) X<|ze X X (fun _ hC => (zf hC.sub (hc5.up (((((((((((le10.trans le16).trans le24).trans le55).trans le60).trans le67).trans le72).trans le78).trans le84).trans le92).trans le100).trans le108)) X Tryz.isAgg24 Tryz.sizeOf24 X))<|zq X X (d := 85) X<|OpsQ.calls X X (fun _ => zaj X Tryz.call18 X) (fun _ hC => Rets.quiet hC (c_postilref01_Same hC.sub (a := (t)) (gf1_0x52.up (((((((le60.trans le67).trans le72).trans le78).trans le84).trans le92).trans le100).trans le108)) (b := t) (t_f0.up ((((((((((((le4.trans le10).trans le16).trans le24).trans le55).trans le60).trans le67).trans le72).trans le78).trans le84).trans le92).trans le100).trans le108))))<|ze X X (fun _ _ => (zK (v := (.bool _)) X X))<|ze X X (fun _ _ => (zN X)) ?_
         refine OpsQ.split (d := 90) rfl (fun g118 => ?_) (fun g118 => ?_)
         ·
          refine zq X X (d := 90) X<|ze X X (fun _ hC => (zf hC.sub (hc74.up ((((le78.trans le84).trans le92).trans le100).trans le108)) X Tryz.isAgg28 Tryz.sizeOf28 X))<|zq X X (d := 90) X<|ze X X (fun _ hC => (zf hC.sub (hc11.up ((((((((((le16.trans le24).trans le55).trans le60).trans le67).trans le72).trans le78).trans le84).trans le92).trans le100).trans le108)) X Tryz.isAgg28 Tryz.sizeOf28 X))<|zq X X (d := 90) X<|OpsQ.calls X X (fun _ => zaj X Tryz.call19 X) (fun _ hC => Rets.quiet hC (c_postilref04_Same hC.sub (a := (x)) (gf3_0x64.up (((((le72.trans le78).trans le84).trans le92).trans le100).trans le108)) (gf3_1x64.up (((((le72.trans le78).trans le84).trans le92).trans le100).trans le108)) (b := x) (x_f0.up ((((((((((((le4.trans le10).trans le16).trans le24).trans le55).trans le60).trans le67).trans le72).trans le78).trans le84).trans le92).trans le100).trans le108)) (x_f1.up ((((((((((((le4.trans le10).trans le16).trans le24).trans le55).trans le60).trans le67).trans le72).trans le78).trans le84).trans le92).trans le100).trans le108))))<|ze X X (fun _ _ => (zK (v := (.bool _)) X X))<|ze X X (fun _ _ => (zJ X))<|zac ?_
          rintro w119 ⟨h120, s121⟩
          have st122 := st109.call0 s121
          refine M<|zA<|zi Tryz.results3 ?_
          refine ⟨h120, _, rfl, st122.done, ?_⟩
          refine zw ?_
          simp_all
         ·
          refine zj X X (d := 90) X X X<|zj X X (d := 90) X X X<|zj X X (d := 90) X X X<|ze X X (fun _ _ => (zC (v := (.bool _)) X X))<|ze X X (fun _ _ => (zJ X))<|zac ?_
          rintro w123 ⟨h124, s125⟩
          have st126 := st109.call0 s125
          refine M<|zA<|zi Tryz.results3 ?_
          refine ⟨h124, _, rfl, st126.done, ?_⟩
          refine zw ?_
          simp_all
        ·
         replace g117 := of_decide_eq_false g117
         refine zj X X (d := 85) X X X<|zj X X (d := 85) X X X<|zj X X (d := 85) X X X<|ze X X (fun _ _ => (zC (v := (.bool _)) X X))<|ze X X (fun _ _ => (zN X))<|zj X X (d := 90) X X X<|zj X X (d := 90) X X X<|zj X X (d := 90) X X X<|ze X X (fun _ _ => (zC (v := (.bool _)) X X))<|ze X X (fun _ _ => (zJ X))<|zac ?_
         rintro w127 ⟨h128, s129⟩
         have st130 := st109.call0 s129
         refine M<|zA<|zi Tryz.results3 ?_
         refine ⟨h128, _, rfl, st130.done, ?_⟩
         refine zw ?_
         simp_all
       ·
        refine zj X X (d := 80) X X X<|zj X X (d := 80) X X X<|zj X X (d := 80) X X X<|ze X X (fun _ _ => (zC (v := (.bool _)) X X))<|ze X X (fun _ _ => (zN X))<|zj X X (d := 85) X X X<|zj X X (d := 85) X X X<|zj X X (d := 85) X X X<|ze X X (fun _ _ => (zC (v := (.bool _)) X X))<|ze X X (fun _ _ => (zN X))<|zj X X (d := 90) X X X<|zj X X (d := 90) X X X<|zj X X (d := 90) X X X<|ze X X (fun _ _ => (zC (v := (.bool _)) X X))<|ze X X (fun _ _ => (zJ X))<|zac ?_
        rintro w131 ⟨h132, s133⟩
        have st134 := st109.call0 s133
        refine M<|zA<|zi Tryz.results3 ?_
        refine ⟨h132, _, rfl, st134.done, ?_⟩
        refine zw ?_
        simp_all
      ·
       replace g115 := of_decide_eq_false g115
       refine zj X X (d := 75) X X X<|zj X X (d := 75) X X X<|zj X X (d := 75) X X X<|ze X X (fun _ _ => (zC (v := (.bool _)) X X))<|ze X X (fun _ _ => (zN X))<|zj X X (d := 80) X X X<|zj X X (d := 80) X X X<|zj X X (d := 80) X X X<|ze X X (fun _ _ => (zC (v := (.bool _)) X X))<|ze X X (fun _ _ => (zN X))<|zj X X (d := 85) X X X<|zj X X (d := 85) X X X<|zj X X (d := 85) X X X<|ze X X (fun _ _ => (zC (v := (.bool _)) X X))<|ze X X (fun _ _ => (zN X))<|zj X X (d := 90) X X X<|zj X X (d := 90) X X X<|zj X X (d := 90) X X X<|ze X X (fun _ _ => (zC (v := (.bool _)) X X))<|ze X X (fun _ _ => (zJ X))<|zac ?_
       rintro w135 ⟨h136, s137⟩
       have st138 := st109.call0 s137
       refine M<|zA<|zi Tryz.results3 ?_
       refine ⟨h136, _, rfl, st138.done, ?_⟩
       refine zw ?_
       simp_all
     ·
      refine zj X X (d := 70) X X X<|zj X X (d := 70) X X X<|zj X X (d := 70) X X X<|ze X X (fun _ _ => (zC (v := (.bool _)) X X))<|ze X X (fun _ _ => (zN X))<|zj X X (d := 75) X X X<|zj X X (d := 75) X X X<|zj X X (d := 75) X X X<|ze X X (fun _ _ => (zC (v := (.bool _)) X X))<|ze X X (fun _ _ => (zN X))<|zj X X (d := 80) X X X<|zj X X (d := 80) X X X<|zj X X (d := 80) X X X<|ze X X (fun _ _ => (zC (v := (.bool _)) X X))<|ze X X (fun _ _ => (zN X))<|zj X X (d := 85) X X X<|zj X X (d := 85) X X X<|zj X X (d := 85) X X X<|ze X X (fun _ _ => (zC (v := (.bool _)) X X))<|ze X X (fun _ _ => (zN X))<|zj X X (d := 90) X X X<|zj X X (d := 90) X X X<|zj X X (d := 90) X X X<|ze X X (fun _ _ => (zC (v := (.bool _)) X X))<|ze X X (fun _ _ => (zJ X))<|zac ?_
      rintro w139 ⟨h140, s141⟩
      have st142 := st109.call0 s141
      refine M<|zA<|zi Tryz.results3 ?_
      refine ⟨h140, _, rfl, st142.done, ?_⟩
      refine zw ?_
      simp_all
    ·
     replace g113 := of_decide_eq_false g113
     refine zj X X (d := 65) X X X<|zj X X (d := 65) X X X<|zj X X (d := 65) X X X<|ze X X (fun _ _ => (zC (v := (.bool _)) X X))<|ze X X (fun _ _ => (zN X))<|zj X X (d := 70) X X X<|zj X X (d := 70) X X X<|zj X X (d := 70) X X X<|ze X X (fun _ _ => (zC (v := (.bool _)) X X))<|ze X X (fun _ _ => (zN X))<|zj X X (d := 75) X X X<|zj X X (d := 75) X X X<|zj X X (d := 75) X X X<|ze X X (fun _ _ => (zC (v := (.bool _)) X X))<|ze X X (fun _ _ => (zN X))<|zj X X (d := 80) X X X<|zj X X (d := 80) X X X<|zj X X (d := 80) X X X<|ze X X (fun _ _ => (zC (v := (.bool _)) X X))<|ze X X (fun _ _ => (zN X))<|zj X X (d := 85) X X X<|zj X X (d := 85) X X X<|zj X X (d := 85) X X X<|ze X X (fun _ _ => (zC (v := (.bool _)) X X))<|ze X X (fun _ _ => (zN X))<|zj X X (d := 90) X X X<|zj X X (d := 90) X X X<|zj X X (d := 90) X X X<|ze X X (fun _ _ => (zC (v := (.bool _)) X X))<|ze X X (fun _ _ => (zJ X)) ?_
     refine zac ?_
     rintro w143 ⟨h144, s145⟩
     have st146 := st109.call0 s145
     refine M<|zA<|zi Tryz.results3 ?_
     refine ⟨h144, _, rfl, st146.done, ?_⟩
     refine zw ?_
     simp_all
end Go.Pk
