/- SMALL RULES FOR THE PRINTED WALKS. -/
import Derived.Test.YtngmpkoobdkeiaaGreatDoorQuiet
import Derived.KernelRfl
namespace Go.Pk
open Go Go.RowKit
section
variable {P : Program} {n : Nat} {Q : Exit → Env → World → Prop} {K : Env → World → Prop} {σ : Env} {w : World}
theorem Then.norm (h : K σ w) : Then K Q .normal σ w := h
theorem Then.exit {id : Nat} (h : Q (.exit id) σ w) : Then K Q (.exit id) σ w := h
theorem Then.goto {l : Nat} (h : Q (.goto l) σ w) : Then K Q (.goto l) σ w := h
theorem Then.ret (h : Q .ret σ w) : Then K Q .ret σ w := h
theorem Blk.norm {id : Nat} (h : Q .normal σ w) : Blk id Q .normal σ w := h
theorem Blk.ret {id : Nat} (h : Q .ret σ w) : Blk id Q .ret σ w := h
theorem Blk.goto {id l : Nat} (h : Q (.goto l) σ w) : Blk id Q (.goto l) σ w := h
theorem Blk.hit {id : Nat} (h : Q .normal σ w) : Blk id Q (.exit id) σ w := by simp only [Blk, if_true]; exact h
theorem Blk.miss {id id' : Nat} (hne : Nat.beq id' id = false) (h : Q (.exit id') σ w) : Blk id Q (.exit id') σ w := by
  have : ¬ id' = id := fun e => by subst e; simp at hne
  simp only [Blk, if_neg this]; exact h
theorem W.loopI {c : Code} {G : Type} (mods : List Nat) (vals : G → List (Nat × Value)) (I : G → World → Prop) (μ : G → Nat) (g : G) (h0 : Has σ (vals g)) (h1 : I g w)
    (round : ∀ g τ w, I g w → W P n c (Then (fun σ' w' => ∃ g', Has σ' (vals g') ∧ Agree mods σ' σ ∧ I g' w' ∧ μ g' < μ g) Q) (known (vals g) (mix mods τ σ)) w) : W P n (.loop c) Q σ w := by
  refine W.loop (fun g σ' w' => ∃ τ, σ' = known (vals g) (mix mods τ σ) ∧ I g w') μ g ?_ ?_
  · obtain ⟨τ, hτ⟩ := loop_back (mods := mods) h0 (Agree.refl mods σ)
    exact ⟨τ, hτ, h1⟩
  · rintro g σ' w' ⟨τ, rfl, hI⟩
    refine W.mono (round g τ w' hI) ?_
    intro e σ'' w'' hq
    cases e with
    | normal =>
      obtain ⟨g', a1, a2, a3, a4⟩ := hq
      obtain ⟨τ', hτ'⟩ := loop_back a1 a2
      exact ⟨g', ⟨τ', hτ', a3⟩, a4⟩
    | _ => exact hq
end
theorem Agree.known {mods : List Nat} {σ' σ : Env} : ∀ {l : List (Nat × Value)}, (l.all fun p => inL mods p.1) = true → Agree mods σ' σ → Agree mods (known l σ') σ
  | [], _, h => h
  | (d, v) :: l, hl, h => by
    simp only [List.all_cons, Bool.and_eq_true] at hl
    exact Agree.upd hl.1 (Agree.known hl.2 h)
theorem Agree.trans {mods : List Nat} {a b c : Env} (h : Agree mods a b) (k : Agree mods b c) : Agree mods a c := fun i hi => (h i hi).trans (k i hi)
theorem Agree.updO {mods : List Nat} {σ' σ : Env} {d : Nat} {v : Value} (hd : inL mods d = true) (h : Agree mods σ' σ) : Agree mods (Pk.updO σ' (some d) v) σ := Agree.upd hd h
/-- an element's place -/
def Elem (v : Value) (k s b o : Nat) : Prop := ∃ off n c, v = .slice (some ⟨b, off, none⟩) n c ∧ k < n ∧ o = off + k * s
theorem Sl.elem {α : Type} {L : Lay α} {h : Heap} {v : Value} {xs : List α} {k : Nat} {y : α} (hs : Sl L h v xs) (hy : xs[k]? = some y) : ∃ b o vs, Elem v k L.size b o ∧ Cells h b o vs ∧ L.R h vs y := by
  obtain ⟨p, c, rfl, _, hh⟩ := hs
  rcases hh with rfl | ⟨b, off, rfl, hh⟩
  · simp at hy
  · obtain ⟨vs, hc, hr⟩ := hh k y hy
    obtain ⟨h1, _⟩ := List.getElem?_eq_some_iff.1 hy
    exact ⟨b, _, vs, ⟨off, _, c, rfl, h1, rfl⟩, hc, hr⟩
section
variable {P : Program} {σ : Env} {w : World} {ty : TypeId} {pos : String} {aft : Array Edge} {g : Option (Nat × Bool)} {dst : Option Tmp}
theorem r_index_el {v : Value} {t e : TypeId} {x ix : Operand} {i : Int} {k s b o : Nat} (he : Elem v k s b o) (hx : ev σ x = v) (hi : ev σ ix = .int .i64 i) (hk : i = (k : Int))
    (hu : P.underlying t = some (.slice e)) (hz : ∀ w, (sizeOf e).run P w = .ok s w) : Run P σ w ⟨dst, .indexAddr t x ix, ty, pos, aft, g⟩ (.pointer (some ⟨b, o, none⟩)) w := by
  obtain ⟨off, m, c, rfl, hlt, rfl⟩ := he
  subst hk
  have h2 : (k : Int) < (m : Int) := by omega
  simp [Run, execOp, hx, hi, Instr.indexAt, asIntOf, run_underlying hu, hz, hlt, addr_add]
theorem r_mvI {x : Operand} {k : IntKind} {a : Int} (hv : ev σ x = .int k a) : Run P σ w ⟨dst, .move x, ty, pos, aft, g⟩ (.int k a) w := r_move hv
theorem r_mvB {x : Operand} {a : Bool} (hv : ev σ x = .bool a) : Run P σ w ⟨dst, .move x, ty, pos, aft, g⟩ (.bool a) w := r_move hv
theorem r_mvS {x : Operand} {a : Str} (hv : ev σ x = strV a) : Run P σ w ⟨dst, .move x, ty, pos, aft, g⟩ (strV a) w := r_move hv
theorem r_mvA {x : Operand} {a : List Value} (hv : ev σ x = .agg a.toArray) : Run P σ w ⟨dst, .move x, ty, pos, aft, g⟩ (.agg a.toArray) w := r_move hv
theorem r_mvT {x : Operand} {a : List Value} (hv : ev σ x = .tuple a.toArray) : Run P σ w ⟨dst, .move x, ty, pos, aft, g⟩ (.tuple a.toArray) w := r_move hv
theorem r_mvP {x : Operand} {a : Option Addr} (hv : ev σ x = .pointer a) : Run P σ w ⟨dst, .move x, ty, pos, aft, g⟩ (.pointer a) w := r_move hv
theorem r_mvF {x : Operand} {f : Fn} {a c : Array Value} (hv : ev σ x = .func f a c) : Run P σ w ⟨dst, .move x, ty, pos, aft, g⟩ (.func f a c) w := r_move hv
theorem r_mvL {x : Operand} {a : Option Addr} {m c : Nat} (hv : ev σ x = .slice a m c) : Run P σ w ⟨dst, .move x, ty, pos, aft, g⟩ (.slice a m c) w := r_move hv
theorem r_mvM {x : Operand} {a : Option Nat} (hv : ev σ x = .map a) : Run P σ w ⟨dst, .move x, ty, pos, aft, g⟩ (.map a) w := r_move hv
theorem r_asI {x : Operand} {k : IntKind} {a : Int} (hv : ev σ x = .int k a) : Run P σ w ⟨dst, .assign x, ty, pos, aft, g⟩ (.int k a) w := r_assign hv
theorem r_asB {x : Operand} {a : Bool} (hv : ev σ x = .bool a) : Run P σ w ⟨dst, .assign x, ty, pos, aft, g⟩ (.bool a) w := r_assign hv
theorem r_asS {x : Operand} {a : Str} (hv : ev σ x = strV a) : Run P σ w ⟨dst, .assign x, ty, pos, aft, g⟩ (strV a) w := r_assign hv
theorem r_asA {x : Operand} {a : List Value} (hv : ev σ x = .agg a.toArray) : Run P σ w ⟨dst, .assign x, ty, pos, aft, g⟩ (.agg a.toArray) w := r_assign hv
theorem r_asT {x : Operand} {a : List Value} (hv : ev σ x = .tuple a.toArray) : Run P σ w ⟨dst, .assign x, ty, pos, aft, g⟩ (.tuple a.toArray) w := r_assign hv
theorem r_asP {x : Operand} {a : Option Addr} (hv : ev σ x = .pointer a) : Run P σ w ⟨dst, .assign x, ty, pos, aft, g⟩ (.pointer a) w := r_assign hv
theorem r_asF {x : Operand} {f : Fn} {a c : Array Value} (hv : ev σ x = .func f a c) : Run P σ w ⟨dst, .assign x, ty, pos, aft, g⟩ (.func f a c) w := r_assign hv
theorem r_asL {x : Operand} {a : Option Addr} {m c : Nat} (hv : ev σ x = .slice a m c) : Run P σ w ⟨dst, .assign x, ty, pos, aft, g⟩ (.slice a m c) w := r_assign hv
theorem r_asM {x : Operand} {a : Option Nat} (hv : ev σ x = .map a) : Run P σ w ⟨dst, .assign x, ty, pos, aft, g⟩ (.map a) w := r_assign hv
theorem r_pickT {c a b : Operand} {v : Value} (hc : ev σ c = .bool true) (hv : ev σ a = v) : Run P σ w ⟨dst, .pick c a b, ty, pos, aft, g⟩ v w := r_pick hc hv
theorem r_pickF {c a b : Operand} {v : Value} (hc : ev σ c = .bool false) (hv : ev σ b = v) : Run P σ w ⟨dst, .pick c a b, ty, pos, aft, g⟩ v w := r_pick hc hv
/-- a cell of a block whose content is told -/
theorem r_load_b1 {b off : Nat} {cs : List Value} {T : TypeId} {fr : Nat × Nat} {v : Value} {t : TypeId} {x : Operand} (hb : w.heap[b]? = some (.cells cs.toArray T fr)) (hx : ev σ x = .pointer (some ⟨b, off, none⟩)) (hv : cs[off]? = some v) (ha : ∀ w, (isAgg t).run P w = .ok false w) :
    Run P σ w ⟨dst, .load t x, ty, pos, aft, g⟩ v w := by
  refine r_load1 hx ha ?_
  simp [World.cell?, hb, hv]
theorem r_load_bN {b off m : Nat} {cs us : List Value} {T : TypeId} {fr : Nat × Nat} {t : TypeId} {x : Operand} (hb : w.heap[b]? = some (.cells cs.toArray T fr)) (hx : ev σ x = .pointer (some ⟨b, off, none⟩)) (ha : ∀ w, (isAgg t).run P w = .ok true w) (hz : ∀ w, (sizeOf t).run P w = .ok m w)
    (hu : (cs.drop off).take m = us) (hn : us.length = m) : Run P σ w ⟨dst, .load t x, ty, pos, aft, g⟩ (.agg us.toArray) w := by
  refine r_loadN hx ha hz hn ?_
  intro j v hj
  subst hu
  rw [List.getElem?_take] at hj
  split at hj
  · rw [List.getElem?_drop] at hj
    simp [World.cell?, hb, hj]
  · cases hj
/-- a load of a whole variable whose cells are all -/
theorem r_load_ball {b m : Nat} {cs : List Value} {T : TypeId} {fr : Nat × Nat} {t : TypeId} {x : Operand} (hb : w.heap[b]? = some (.cells cs.toArray T fr)) (hx : ev σ x = .pointer (some ⟨b, 0, none⟩)) (ha : ∀ w, (isAgg t).run P w = .ok true w) (hz : ∀ w, (sizeOf t).run P w = .ok m w)
    (hn : cs.length = m) : Run P σ w ⟨dst, .load t x, ty, pos, aft, g⟩ (.agg cs.toArray) w :=
  r_load_bN hb hx ha hz (by rw [← hn]; simp) hn
theorem r_load_call {h : Heap} (hs : Sub h w) {t : TypeId} {x : Operand} {b o m : Nat} {vs : List Value} (hc : Cells h b o vs) (hx : ev σ x = .pointer (some ⟨b, o, none⟩)) (ha : ∀ w, (isAgg t).run P w = .ok true w) (hz : ∀ w, (sizeOf t).run P w = .ok m w) (hn : vs.length = m) :
    Run P σ w ⟨dst, .load t x, ty, pos, aft, g⟩ (.agg vs.toArray) w :=
  r_loadN hx ha hz hn fun _ _ hj => hc.cell hs hj
end
theorem St.done {h0 h : Heap} {w0 w : World} {own : Own} (st : St h0 w0 h w own) : St h0 w0 h w [] :=
  ⟨st.le, st.new, st.sub, st.below, by simp, by simp⟩
theorem Cls.sub {h : Heap} {w w' : World} (hc : Cls h w w') : Sub h w' := by
  obtain ⟨h', s⟩ := hc
  exact fun b o hb => s.sub b o (s.le b o hb)
theorem Cls.block {h : Heap} {w w' : World} (hc : Cls h w w') {b : Nat} {o : Obj} (hb : w.heap[b]? = some o) : w'.heap[b]? = some o := by
  obtain ⟨h', s⟩ := hc
  rw [s.below.block b (lt_of_some hb)]; exact hb
theorem Cls.drew {h0 h : Heap} {w0 w : World} {own : Own} (st : St h0 w0 h w own) : Cls h w w.drew := ⟨h, (St.start st.sub).drew⟩
theorem Cls.trans {h h' : Heap} {w w' w'' : World} (hc : Cls h w w') (s : St h w' h' w'' []) : Cls h w w'' := by
  obtain ⟨h1, s1⟩ := hc
  -- the callee starts from the same frozen heap, seen in a later world
  have e : ∀ b, b < w.heap.size → h' b = h b := fun b hb => s.new b (Nat.lt_of_lt_of_le hb s1.below.size)
  exact ⟨h', s.le, e, s.sub, s1.below.trans (s.below.mono s1.below.size), by simp, by simp⟩
def Rets (h : Heap) (w : World) (Φ : Heap → World → Value → Prop) : Ending → World → Prop := fun e w' => ∃ h' v, e = .returned v ∧ St h w h' w' [] ∧ Φ h' w' v
theorem Rets.quiet {P : Program} {f : FuncId} {args : Array Value} {h : Heap} {w w' : World} {v : Value} (hcls : Cls h w w') (hc : Calls P f args w' (Rets h w' fun _ _ r => r = v)) : Calls P f args w' fun e w'' => e = .returned v ∧ Cls h w w'' := by
  refine hc.mono ?_
  rintro e w'' ⟨h', r, rfl, s, rfl⟩
  exact ⟨rfl, hcls.trans s⟩
theorem St.take {h0 h : Heap} {w0 w : World} {own : Own} (st : St h0 w0 h w own) (m : Nat) : St h0 w0 h w (own.take m) := by
  have hsub : (own.take m).flatten.Sublist own.flatten := by
    have e : own.flatten = (own.take m).flatten ++ (own.drop m).flatten := by rw [← List.flatten_append, List.take_append_drop]
    rw [e]; exact List.sublist_append_left _ _
  exact ⟨st.le, st.new, st.sub, st.below, fun p hp => st.mine p (hsub.subset hp), (hsub.map _).nodup st.nodup⟩
theorem Cells.of {h : Heap} {b : Nat} {cs : List Value} {T : TypeId} {fr : Nat × Nat} (hb : h b = some (.cells cs.toArray T fr)) : Cells h b 0 cs :=
  ⟨_, _, _, hb, fun j v hv => by simpa using hv⟩
theorem r_steql {P : Program} {σ : Env} {w : World} {ty : TypeId} {pos : String} {aft : Array Edge} {g : Option (Nat × Bool)} {dst : Option Tmp} {t t' : TypeId} {x y : Operand} {a b : List Value} {v : Bool} (hx : ev σ x = .agg a.toArray) (hy : ev σ y = .agg b.toArray) (hg : P.eqGuardType P.depth t = false)
    (he : ∀ w, (binOp .eql t (.agg a.toArray) (.agg b.toArray)).run P w = .ok (.bool v) w) : Run P σ w ⟨dst, .binOp .eql t x y t', ty, pos, aft, g⟩ (.bool v) w := by
  simp [Run, execOp, hx, hy, run_eqGuard_agg w _ t x y _ _ hg, he]
theorem r_stneq {P : Program} {σ : Env} {w : World} {ty : TypeId} {pos : String} {aft : Array Edge} {g : Option (Nat × Bool)} {dst : Option Tmp} {t t' : TypeId} {x y : Operand} {a b : List Value} {p : Prop} [Decidable p] (hx : ev σ x = .agg a.toArray) (hy : ev σ y = .agg b.toArray) (hg : P.eqGuardType P.depth t = false)
    (he : ∀ w, (binOp .eql t (.agg a.toArray) (.agg b.toArray)).run P w = .ok (.bool (decide p)) w) : Run P σ w ⟨dst, .binOp .neq t x y t', ty, pos, aft, g⟩ (.bool (decide (¬ p))) w := by
  have h1 := he w
  rw [run_eql_struct] at h1
  have h2 : (binOp .neq t (.agg a.toArray) (.agg b.toArray)).run P w = .ok (.bool (!decide p)) w := by
    rw [run_neq_struct]
    generalize (Op.equalIn 10000 t (.agg a.toArray) (.agg b.toArray)).run P w = r at h1
    cases r with
    | ok u w' => simp at h1; obtain ⟨rfl, rfl⟩ := h1; simp
    | halt x w' => simp at h1
  simp [Run, execOp, hx, hy, run_eqGuard_agg w _ t x y _ _ hg, h2]
theorem one_nil : (([] : List Value).all (·.oneCell')) = true := rfl
theorem one_cons {v : Value} {vs : List Value} (h1 : v.oneCell' = true) (h2 : (vs.all (·.oneCell')) = true) : ((v :: vs).all (·.oneCell')) = true := by simp [h1]; simpa using h2
theorem take_snoc {α : Type} {xs : List α} {k : Nat} {y : α} (h : xs[k]? = some y) : xs.take (k + 1) = xs.take k ++ [y] := by
  obtain ⟨h1, h2⟩ := List.getElem?_eq_some_iff.1 h
  rw [List.take_succ_eq_append_getElem h1, h2]
theorem Sl.to {α : Type} {L : Lay α} {h : Heap} {v : Value} {xs ys : List α} (hs : Sl L h v xs) (e : xs = ys) : Sl L h v ys := e ▸ hs
theorem tup2 {a a' b b' : Value} (h1 : a = a') (h2 : b = b') : Value.tuple #[a, b] = Value.tuple #[a', b'] := by rw [h1, h2]
theorem bool_eq {a b : Bool} (h : a = b) : Value.bool a = Value.bool b := by rw [h]
theorem int_eq {k : IntKind} {a b : Int} (h : a = b) : Value.int k a = Value.int k b := by rw [h]
theorem str_eq {a b : Str} (h : a = b) : strV a = strV b := by rw [h]
end Go.Pk
