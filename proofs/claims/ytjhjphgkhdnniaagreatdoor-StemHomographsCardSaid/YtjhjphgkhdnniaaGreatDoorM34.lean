/- The law StemHomographsCardSaid is proved for this program: for every input that the row speaks of the call returns true and each argument reads behind the call as it read before. Conditions: those of the row and of its card, no others. -/
import Derived.Test.YtjhjphgkhdnniaaGreatDoorB34
import Derived.Test.YtjhjphgkhdnniaaGreatDoorT12
set_option linter.unusedSimpArgs false
set_option linter.unusedVariables false
set_option maxRecDepth 4000
namespace Go.Pk
open Go Go.RowKit Go.Proofs
end Go.Pk
namespace Go.Proofs.YtjhjphgkhdnniaaGreatDoor.stemHomographs
open Go Go.RowKit Go.ChangeShapes Go.WideShapes Go.ChangeAt Go.Pk
set_option maxRecDepth 100000
theorem own : ownKnob Tryz.prog.godebug = none := by kernel_rfl
theorem laidOut : laidOutB Tryz.prog = true := by kernel_rfl
theorem contract (H : Type) (enc : TypeId × Value → H) (W : World) (base : Nat) (args : Array Value) (ds gs : List (DataW H)) (before : List MemPlace)
  (hval : ∀ (j : Nat) t v, Tryz.f3.params[j]? = some t → args[j]? = some v → Value.okWide Tryz.prog W .any base t v)
  (hW : DataW.Whole enc Tryz.prog Tryz.f3.params.toList Rows.stemHomographsSpec.vars false W args.toList ds gs before)
  (hz : (DataW.weightsEach Tryz.prog (Tryz.f3.params.toList ++ []) (ds ++ gs)).all (· ≤ reachBytes) = true) (hL : laidMetH Tryz.prog Rows.stemHomographsRow.laid W) :
  Calls Tryz.prog 3 args W fun e W' => ∃ v, e = .returned v ∧ Rows.stemHomographsSpec.post enc Tryz.prog Tryz.f3 false true false false W args v W' := by
 have hW' := hW;obtain ⟨p, q, hA, hV, rfl, _, _⟩ := hW;have hA : DataW.TrodAll enc Tryz.prog W 0 (fun _ => true) true [24, 28, 29, 29] args.toList ds p := hA;obtain ⟨v0, vs0, d0, ds0, p0, q0, hargs0, rfl, rfl, h0, r0⟩ := trodAll_cons hA;obtain ⟨v1, vs1, d1, ds1, p1, q1, hargs1, rfl, rfl, h1, r1⟩ := trodAll_cons r0;obtain ⟨v2, vs2, d2, ds2, p2, q2, hargs2, rfl, rfl, h2, r2⟩ := trodAll_cons r1;obtain ⟨v3, vs3, d3, ds3, p3, q3, hargs3, rfl, rfl, h3, r3⟩ := trodAll_cons r2;obtain ⟨hn, rfl, rfl⟩ := trodAll_nil r3;obtain ⟨rfl, rfl⟩ := trodVars_none hV;obtain rfl : args = #[v0, v1, v2, v3] := by cases args; simp_all
 obtain ⟨cs0, a0, rfl, g0⟩ := ziY Tryz.underlying24 Tryz.reads24 (hval 0 24 v0 rfl rfl) h0 (zhU hz (j := 0) rfl rfl);obtain ⟨z0_0, rfl, y0_0⟩ := g0;obtain ⟨cs1, a1, rfl, g1⟩ := ziY Tryz.underlying28 Tryz.reads28 (hval 1 28 v1 rfl rfl) h1 (zhU hz (j := 1) rfl rfl);obtain ⟨z1_0, z1_1, rfl, y1_0, y1_1⟩ := g1;obtain ⟨a2, rfl, g2⟩ := zjo Tryz.underlying29 (hval 2 29 v2 rfl rfl) h2;obtain ⟨a3, rfl, g3⟩ := zjo Tryz.underlying29 (hval 3 29 v3 rfl rfl) h3;refine (zhz (zia W) (t := a0) y0_0 (x := a1) y1_0 y1_1 a2 g2 a3 g3 (Tryz.kinds_laid hL)).mono ?_;rintro e W' ⟨h', r, rfl, st, rfl⟩;exact ⟨_, rfl, law_post laidOut (by intro t ht; simp only [Tryz.params3, List.mem_cons, List.not_mem_nil, or_false] at ht; rcases ht with rfl | rfl | rfl | rfl <;> exact ⟨by kernel_rfl, of_decide_eq_true zq⟩) hW' rfl ⟨rfl, rfl, rfl⟩ zq Tryz.underlying4 st.below⟩
theorem laid_met (os : Os) (args : Array Value) : laidMetH Tryz.prog Rows.stemHomographsRow.laid ((World.doorLaid Tryz.prog 2000 os).forCall (fun _ _ => 0) ⟨#[], args, []⟩).memory :=
 laidMetH_of_parts3 (fuel := 8) (laidMet_of_run' 8 zq zq) zq zq
theorem reads (os : Os) {H : Type} (enc : TypeId × Value → H) : ∃ places, DataW.whole enc Tryz.prog ((World.doorLaid Tryz.prog 2000 os).forCall (fun _ _ => 0) ⟨#[], #[.agg #[.slice none 0 0], .agg #[.slice none 0 0, .slice none 0 0], .int .u16 0, .int .u16 0], []⟩).memory Tryz.f3.params.toList Rows.stemHomographsSpec.vars false (#[.agg #[.slice none 0 0], .agg #[.slice none 0 0, .slice none 0 0], .int .u16 0, .int .u16 0] : Array Value).toList 8 = some ([.agg [.nil], .agg [.nil, .nil], .lit (.int .u16 0), .lit (.int .u16 0)], [], places) :=
 ⟨[], by kernel_rfl⟩
theorem lifted (os : Os) (started : os.Started) (H : Type) (enc : TypeId × Value → H) (F : Stop.Interp) :
  ReturnsInHanded {} Tryz.checked os 3 .any ((OpenSpec.ofChange Rows.stemHomographsSpec).preRow enc Tryz.prog Tryz.f3 Rows.stemHomographsRow.domain false Rows.stemHomographsRow.laid) (((OpenSpec.ofChange Rows.stemHomographsSpec).at F).post enc Tryz.prog Tryz.f3 false true false false) := by
 obtain ⟨places, hx⟩ := reads os enc;refine returnsInHanded_of_row (C := Tryz.checked) (s := OpenSpec.ofChange Rows.stemHomographsSpec) own started zq Tryz.func3
  (witness_row_at (enc := enc) (C := Tryz.checked) false (World.doorLaid Tryz.prog 2000 os) #[.agg #[.slice none 0 0], .agg #[.slice none 0 0, .slice none 0 0], .int .u16 0, .int .u16 0] rfl zq zq zq
   (OpenSpec.preRow_of_cond 8 hx zq (fun k hk => by cases hk) zq (laid_met os _))) ?_
 intro W base args ds gs before hval hW _ _ hz hL _ _;exact contract H enc W base args ds gs before hval hW hz hL
theorem part1 : (Rows.stemHomographsRow.inPlace == Tryz.prog.inPlace 3) = true := by kernel_rfl
theorem part2 : (Rows.stemHomographsRow.unfollowed == Tryz.prog.unfollowed 3) = true := by kernel_rfl
theorem part3 : (Rows.stemHomographsRow.recurses == Tryz.prog.recurses 3) = true := by kernel_rfl
theorem part4 : (Rows.stemHomographsRow.named == Tryz.prog.varsNamed 3) = true := by kernel_rfl
theorem joined : joinedFacts Tryz.prog 3 Tryz.f3 (OpenSpec.ofChange Rows.stemHomographsSpec).bare Rows.stemHomographsRow = true := by
 unfold joinedFacts;rw [part1, part2, part3, part4]
 kernel_rfl
theorem said : Rows.StemHomographsSaid :=
 OpenClaim.holds_of_cond 3 Tryz.f3 rfl rfl rfl rfl rfl rfl rfl ⟨rfl, rfl, rfl, rfl, rfl⟩ rfl rfl rfl rfl rfl zq Tryz.func3 joined
  (of_decide_eq_true zq) (by unfold Func.isWrapper; first | (rw [if_pos (by decide +kernel)]; kernel_rfl) | (rw [if_neg (by decide +kernel)]; exact ⟨rfl, rfl⟩))
  (fun os started H enc _ F => by rw [OpenClaim.pre_eq_preRow]; exact lifted os started H enc F)
theorem plain (f : FuncId) (fn : Func) (hf : Tryz.pinned.checked.prog.funcNamed "postil/postillaw04.StemHomographs" = some f) (hfn : Tryz.pinned.checked.prog.funcs[f]? = some fn) :
  false = Tryz.pinned.checked.prog.looks [] ∧ ∀ (j : Nat) t, fn.params[j]? = some t → Tryz.pinned.checked.prog.wantsStandIn t = false := by
 obtain rfl : f = 3 := Option.some.inj ((show Tryz.prog.funcNamed "postil/postillaw04.StemHomographs" = some 3 by kernel_rfl).symm.trans hf) |>.symm
 obtain rfl : fn = Tryz.f3 := (Option.some.inj (Tryz.func3.symm.trans hfn)).symm;refine ⟨by kernel_rfl, fun j t ht => ?_⟩;have hm := Array.mem_of_getElem? ht;have hm : t ∈ ([24, 28, 29, 29] : List TypeId) := by have := Array.mem_toList_iff.2 hm; rwa [Tryz.params3] at this
 simp only [List.mem_cons, List.not_mem_nil, or_false] at hm
 rcases hm with rfl | rfl | rfl | rfl
 ·exact (show Tryz.prog.wantsStandIn 24 = false by kernel_rfl)
 ·exact (show Tryz.prog.wantsStandIn 28 = false by kernel_rfl)
 ·exact (show Tryz.prog.wantsStandIn 29 = false by kernel_rfl)
 ·exact (show Tryz.prog.wantsStandIn 29 = false by kernel_rfl)
/-- the card -/
theorem card : Rows.StemHomographsCardSaid :=
 Claim7.holds_tied_plain_at .later [] _ _ _ _ said (fun _ h => by cases h) zq (fun _ h => by cases h) stemHomographs_row_tie rfl ⟨rfl, rfl⟩ zq rfl plain zq
end Go.Proofs.YtjhjphgkhdnniaaGreatDoor.stemHomographs
namespace Go.Pk
end Go.Pk
