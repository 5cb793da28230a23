/- The law VoteUnderCardSaid is proved for this program: for every input that the row speaks of the call returns true and each argument reads behind the call as it read before. Conditions: those of the row and of its card, no others. -/
import Derived.Test.YtjdbapoodefncaaGreatDoorT14
import Derived.Test.YtjdbapoodefncaaGreatDoorT11
set_option linter.unusedSimpArgs false
set_option linter.unusedVariables false
set_option maxRecDepth 4000
namespace Go.Pk
open Go Go.RowKit Go.Proofs
end Go.Pk
namespace Go.Proofs.YtjdbapoodefncaaGreatDoor.voteUnder
open Go Go.RowKit Go.ChangeShapes Go.WideShapes Go.ChangeAt Go.Pk
set_option maxRecDepth 100000
theorem own : ownKnob Tryz.prog.godebug = none := by kernel_rfl
theorem laidOut : laidOutB Tryz.prog = true := by kernel_rfl
theorem contract (H : Type) (enc : TypeId × Value → H) (W : World) (base : Nat) (args : Array Value) (ds gs : List (DataW H)) (before : List MemPlace)
  (hval : ∀ (j : Nat) t v, Tryz.f8.params[j]? = some t → args[j]? = some v → Value.okWide Tryz.prog W .any base t v)
  (hW : DataW.Whole enc Tryz.prog Tryz.f8.params.toList Rows.voteUnderSpec.vars false W args.toList ds gs before)
  (hz : (DataW.weightsEach Tryz.prog (Tryz.f8.params.toList ++ []) (ds ++ gs)).all (· ≤ reachBytes) = true) (hL : laidMetH Tryz.prog Rows.voteUnderRow.laid W) :
  Calls Tryz.prog 8 args W fun e W' => ∃ v, e = .returned v ∧ Rows.voteUnderSpec.post enc Tryz.prog Tryz.f8 false true false false W args v W' := by
 have hW' := hW;obtain ⟨p, q, hA, hV, rfl, _, _⟩ := hW;have hA : DataW.TrodAll enc Tryz.prog W 0 (fun _ => true) true [36] args.toList ds p := hA;obtain ⟨v0, vs0, d0, ds0, p0, q0, hargs0, rfl, rfl, h0, r0⟩ := trodAll_cons hA;obtain ⟨hn, rfl, rfl⟩ := trodAll_nil r0;obtain ⟨rfl, rfl⟩ := trodVars_none hV;obtain rfl : args = #[v0] := by cases args; simp_all
 obtain ⟨cs0, a0, rfl, g0⟩ := reads_agg Tryz.underlying36 Tryz.reads36 (hval 0 36 v0 rfl rfl) h0 (weights_at hz (j := 0) rfl rfl);obtain ⟨z0_0, z0_1, z0_2, z0_3, z0_4, rfl, y0_0, y0_1, y0_2, y0_3, y0_4⟩ := g0;refine (zjt (zhx W) (p := a0) y0_0 y0_1 y0_2 y0_3 y0_4 (Tryz.kinds_laid hL) (Tryz.asked_laid hL)).mono ?_;rintro e W' ⟨h', r, rfl, st, rfl⟩;exact ⟨_, rfl, law_post laidOut (by intro t ht; simp only [Tryz.params8, List.mem_cons, List.not_mem_nil, or_false] at ht; rcases ht with rfl <;> exact ⟨by kernel_rfl, of_decide_eq_true zct⟩) hW' rfl ⟨rfl, rfl, rfl⟩ zct Tryz.underlying4 st.below⟩
theorem laid_met (os : Os) (args : Array Value) : laidMetH Tryz.prog Rows.voteUnderRow.laid ((World.doorLaid Tryz.prog 2000 os).forCall (fun _ _ => 0) ⟨#[], args, []⟩).memory :=
 laidMetH_of_parts3 (fuel := 8) (laidMet_of_run' 8 zct zct) zct zct
theorem reads (os : Os) {H : Type} (enc : TypeId × Value → H) : ∃ places, DataW.whole enc Tryz.prog ((World.doorLaid Tryz.prog 2000 os).forCall (fun _ _ => 0) ⟨#[], #[.agg #[.slice none 0 0, .slice none 0 0, .slice none 0 0, .slice none 0 0, .slice none 0 0]], []⟩).memory Tryz.f8.params.toList Rows.voteUnderSpec.vars false (#[.agg #[.slice none 0 0, .slice none 0 0, .slice none 0 0, .slice none 0 0, .slice none 0 0]] : Array Value).toList 8 = some ([.agg [.agg [.nil], .agg [.nil, .nil], .nil, .nil]], [], places) :=
 ⟨[], by kernel_rfl⟩
theorem lifted (os : Os) (started : os.Started) (H : Type) (enc : TypeId × Value → H) (F : Stop.Interp) :
  ReturnsInHanded {} Tryz.checked os 8 .any ((OpenSpec.ofChange Rows.voteUnderSpec).preRow enc Tryz.prog Tryz.f8 Rows.voteUnderRow.domain false Rows.voteUnderRow.laid) (((OpenSpec.ofChange Rows.voteUnderSpec).at F).post enc Tryz.prog Tryz.f8 false true false false) := by
 obtain ⟨places, hx⟩ := reads os enc;refine returnsInHanded_of_row (C := Tryz.checked) (s := OpenSpec.ofChange Rows.voteUnderSpec) own started zct Tryz.func8
  (witness_row_at (enc := enc) (C := Tryz.checked) false (World.doorLaid Tryz.prog 2000 os) #[.agg #[.slice none 0 0, .slice none 0 0, .slice none 0 0, .slice none 0 0, .slice none 0 0]] rfl zct zct zct
   (OpenSpec.preRow_of_cond 8 hx zct (fun k hk => by cases hk) zct (laid_met os _))) ?_
 intro W base args ds gs before hval hW _ _ hz hL _ _;exact contract H enc W base args ds gs before hval hW hz hL
theorem part1 : (Rows.voteUnderRow.inPlace == Tryz.prog.inPlace 8) = true := by kernel_rfl
theorem part2 : (Rows.voteUnderRow.unfollowed == Tryz.prog.unfollowed 8) = true := by kernel_rfl
theorem part3 : (Rows.voteUnderRow.recurses == Tryz.prog.recurses 8) = true := by kernel_rfl
theorem part4 : (Rows.voteUnderRow.named == Tryz.prog.varsNamed 8) = true := by kernel_rfl
theorem joined : joinedFacts Tryz.prog 8 Tryz.f8 (OpenSpec.ofChange Rows.voteUnderSpec).bare Rows.voteUnderRow = true := by
 unfold joinedFacts;rw [part1, part2, part3, part4]
 kernel_rfl
theorem said : Rows.VoteUnderSaid :=
 OpenClaim.holds_of_cond 8 Tryz.f8 rfl rfl rfl rfl rfl rfl rfl ⟨rfl, rfl, rfl, rfl, rfl⟩ rfl rfl rfl rfl rfl zct Tryz.func8 joined
  (of_decide_eq_true zct) (by unfold Func.isWrapper; first | (rw [if_pos (by decide +kernel)]; kernel_rfl) | (rw [if_neg (by decide +kernel)]; exact ⟨rfl, rfl⟩))
  (fun os started H enc _ F => by rw [OpenClaim.pre_eq_preRow]; exact lifted os started H enc F)
theorem plain (f : FuncId) (fn : Func) (hf : Tryz.pinned.checked.prog.funcNamed "postil/postillaw07.VoteUnder" = some f) (hfn : Tryz.pinned.checked.prog.funcs[f]? = some fn) :
  false = Tryz.pinned.checked.prog.looks [] ∧ ∀ (j : Nat) t, fn.params[j]? = some t → Tryz.pinned.checked.prog.wantsStandIn t = false := by
 obtain rfl : f = 8 := Option.some.inj ((show Tryz.prog.funcNamed "postil/postillaw07.VoteUnder" = some 8 by kernel_rfl).symm.trans hf) |>.symm
 obtain rfl : fn = Tryz.f8 := (Option.some.inj (Tryz.func8.symm.trans hfn)).symm;refine ⟨by kernel_rfl, fun j t ht => ?_⟩;have hm := Array.mem_of_getElem? ht;have hm : t ∈ ([36] : List TypeId) := by have := Array.mem_toList_iff.2 hm; rwa [Tryz.params8] at this
 simp only [List.mem_cons, List.not_mem_nil, or_false] at hm
 rcases hm with rfl
 ·exact (show Tryz.prog.wantsStandIn 36 = false by kernel_rfl)
/-- the card -/
theorem card : Rows.VoteUnderCardSaid :=
 Claim7.holds_tied_plain_at .later [] _ _ _ _ said (fun _ h => by cases h) zct (fun _ h => by cases h) voteUnder_row_tie rfl ⟨rfl, rfl⟩ zct rfl plain zct
end Go.Proofs.YtjdbapoodefncaaGreatDoor.voteUnder
namespace Go.Pk
end Go.Pk
