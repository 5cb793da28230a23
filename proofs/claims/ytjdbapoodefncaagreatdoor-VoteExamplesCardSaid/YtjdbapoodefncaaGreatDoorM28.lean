/- The law VoteExamplesCardSaid is proved for this program: for every input that the row speaks of the call returns true and each argument reads behind the call as it read before. Conditions: those of the row and of its card, no others. -/
import Derived.Test.YtjdbapoodefncaaGreatDoorB28
import Derived.Test.YtjdbapoodefncaaGreatDoorT11
set_option linter.unusedSimpArgs false
set_option linter.unusedVariables false
set_option maxRecDepth 4000
namespace Go.Pk
open Go Go.RowKit Go.Proofs
end Go.Pk
namespace Go.Proofs.YtjdbapoodefncaaGreatDoor.voteExamples
open Go Go.RowKit Go.ChangeShapes Go.WideShapes Go.ChangeAt Go.Pk
set_option maxRecDepth 100000
theorem own : ownKnob Tryz.prog.godebug = none := by kernel_rfl
theorem laidOut : laidOutB Tryz.prog = true := by kernel_rfl
theorem contract (H : Type) (enc : TypeId × Value → H) (W : World) (base : Nat) (args : Array Value) (ds gs : List (DataW H)) (before : List MemPlace)
  (hval : ∀ (j : Nat) t v, Tryz.f3.params[j]? = some t → args[j]? = some v → Value.okWide Tryz.prog W .any base t v)
  (hW : DataW.Whole enc Tryz.prog Tryz.f3.params.toList Rows.voteExamplesSpec.vars false W args.toList ds gs before)
  (hz : (DataW.weightsEach Tryz.prog (Tryz.f3.params.toList ++ []) (ds ++ gs)).all (· ≤ reachBytes) = true) (hL : laidMetH Tryz.prog Rows.voteExamplesRow.laid W) :
  Calls Tryz.prog 3 args W fun e W' => ∃ v, e = .returned v ∧ Rows.voteExamplesSpec.post enc Tryz.prog Tryz.f3 false true false false W args v W' := by
 have hW' := hW;obtain ⟨p, q, hA, hV, rfl, _, _⟩ := hW;have hA : DataW.TrodAll enc Tryz.prog W 0 (fun _ => true) true [] args.toList ds p := hA;obtain ⟨hn, rfl, rfl⟩ := trodAll_nil hA;obtain ⟨rfl, rfl⟩ := trodVars_none hV;obtain rfl : args = #[] := by cases args; simp_all
 refine (ziN (zgx W)  (Tryz.kinds_laid hL) (Tryz.asked_laid hL)).mono ?_;rintro e W' ⟨h', r, rfl, st, rfl⟩;exact ⟨_, rfl, law_post laidOut (by intro t ht; rw [Tryz.params3] at ht; cases ht) hW' rfl ⟨rfl, rfl, rfl⟩ zbx Tryz.underlying4 st.below⟩
theorem laid_met (os : Os) (args : Array Value) : laidMetH Tryz.prog Rows.voteExamplesRow.laid ((World.doorLaid Tryz.prog 2000 os).forCall (fun _ _ => 0) ⟨#[], args, []⟩).memory :=
 laidMetH_of_parts3 (fuel := 8) (laidMet_of_run' 8 zbx zbx) zbx zbx
theorem reads (os : Os) {H : Type} (enc : TypeId × Value → H) : ∃ places, DataW.whole enc Tryz.prog ((World.doorLaid Tryz.prog 2000 os).forCall (fun _ _ => 0) ⟨#[], #[], []⟩).memory Tryz.f3.params.toList Rows.voteExamplesSpec.vars false (#[] : Array Value).toList 8 = some ([], [], places) :=
 ⟨[], by kernel_rfl⟩
theorem lifted (os : Os) (started : os.Started) (H : Type) (enc : TypeId × Value → H) (F : Stop.Interp) :
  ReturnsInHanded {} Tryz.checked os 3 .any ((OpenSpec.ofChange Rows.voteExamplesSpec).preRow enc Tryz.prog Tryz.f3 Rows.voteExamplesRow.domain false Rows.voteExamplesRow.laid) (((OpenSpec.ofChange Rows.voteExamplesSpec).at F).post enc Tryz.prog Tryz.f3 false true false false) := by
 obtain ⟨places, hx⟩ := reads os enc;refine returnsInHanded_of_row (C := Tryz.checked) (s := OpenSpec.ofChange Rows.voteExamplesSpec) own started zbx Tryz.func3
  (witness_row_at (enc := enc) (C := Tryz.checked) false (World.doorLaid Tryz.prog 2000 os) #[] rfl zbx zbx zbx
   (OpenSpec.preRow_of_cond 8 hx zbx (fun k hk => by cases hk) zbx (laid_met os _))) ?_
 intro W base args ds gs before hval hW _ _ hz hL _ _;exact contract H enc W base args ds gs before hval hW hz hL
theorem part1 : (Rows.voteExamplesRow.inPlace == Tryz.prog.inPlace 3) = true := by kernel_rfl
theorem part2 : (Rows.voteExamplesRow.unfollowed == Tryz.prog.unfollowed 3) = true := by kernel_rfl
theorem part3 : (Rows.voteExamplesRow.recurses == Tryz.prog.recurses 3) = true := by kernel_rfl
theorem part4 : (Rows.voteExamplesRow.named == Tryz.prog.varsNamed 3) = true := by kernel_rfl
theorem joined : joinedFacts Tryz.prog 3 Tryz.f3 (OpenSpec.ofChange Rows.voteExamplesSpec).bare Rows.voteExamplesRow = true := by
 unfold joinedFacts;rw [part1, part2, part3, part4]
 kernel_rfl
theorem said : Rows.VoteExamplesSaid :=
 OpenClaim.holds_of_cond 3 Tryz.f3 rfl rfl rfl rfl rfl rfl rfl ⟨rfl, rfl, rfl, rfl, rfl⟩ rfl rfl rfl rfl rfl zbx Tryz.func3 joined
  (of_decide_eq_true zbx) (by unfold Func.isWrapper; first | (rw [if_pos (by decide +kernel)]; kernel_rfl) | (rw [if_neg (by decide +kernel)]; exact ⟨rfl, rfl⟩))
  (fun os started H enc _ F => by rw [OpenClaim.pre_eq_preRow]; exact lifted os started H enc F)
theorem plain (f : FuncId) (fn : Func) (hf : Tryz.pinned.checked.prog.funcNamed "postil/postillaw07.VoteExamples" = some f) (hfn : Tryz.pinned.checked.prog.funcs[f]? = some fn) :
  false = Tryz.pinned.checked.prog.looks [] ∧ ∀ (j : Nat) t, fn.params[j]? = some t → Tryz.pinned.checked.prog.wantsStandIn t = false := by
 obtain rfl : f = 3 := Option.some.inj ((show Tryz.prog.funcNamed "postil/postillaw07.VoteExamples" = some 3 by kernel_rfl).symm.trans hf) |>.symm
 obtain rfl : fn = Tryz.f3 := (Option.some.inj (Tryz.func3.symm.trans hfn)).symm;refine ⟨by kernel_rfl, fun j t ht => ?_⟩;have hm := Array.mem_of_getElem? ht;have hm : t ∈ ([] : List TypeId) := by have := Array.mem_toList_iff.2 hm; rwa [Tryz.params3] at this
 cases hm
/-- the card -/
theorem card : Rows.VoteExamplesCardSaid :=
 Claim7.holds_tied_plain_at .later [] _ _ _ _ said (fun _ h => by cases h) zbx (fun _ h => by cases h) voteExamples_row_tie rfl ⟨rfl, rfl⟩ zbx rfl plain zbx
end Go.Proofs.YtjdbapoodefncaaGreatDoor.voteExamples
namespace Go.Pk
end Go.Pk
