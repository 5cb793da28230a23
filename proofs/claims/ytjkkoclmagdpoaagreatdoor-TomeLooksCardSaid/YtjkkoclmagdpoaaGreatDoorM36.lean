/- The law TomeLooksCardSaid is proved for this program: for every input that the row speaks of the call returns true and each argument reads behind the call as it read before. Conditions: those of the row and of its card, no others. -/
import Derived.Test.YtjkkoclmagdpoaaGreatDoorT15
import Derived.Test.YtjkkoclmagdpoaaGreatDoorT11
set_option linter.all false
set_option maxRecDepth 4000
namespace Go.Pk
open Go Go.RowKit Go.Proofs
end Go.Pk
namespace Go.Proofs.YtjkkoclmagdpoaaGreatDoor.tomeLooks
open Go Go.RowKit Go.ChangeShapes Go.WideShapes Go.ChangeAt Go.Pk
set_option maxRecDepth 100000
theorem own:ownKnob Tryz.prog.godebug=none:=by kernel_rfl
theorem zGd:laidOutB Tryz.prog=true:=by kernel_rfl
theorem zFt (H:Type) (enc:TypeId×Value→H) (W:World) (base:Nat) (args:Array Value) (ds gs:List (DataW H)) (before:List MemPlace)
  (hval:∀ (j:Nat) t v,Tryz.f4.params[j]?=some t→args[j]?=some v→Value.okWide Tryz.prog W .any base t v)
  (hW:DataW.Whole enc Tryz.prog Tryz.f4.params.toList Rows.tomeLooksSpec.vars false W args.toList ds gs before)
  (hz:(DataW.weightsEach Tryz.prog (Tryz.f4.params.toList++[]) (ds++gs)).all (·≤reachBytes)=true) (hL:laidMetH Tryz.prog Rows.tomeLooksRow.laid W) :
  Calls Tryz.prog 4 args W fun e W'=>∃ v,e=.returned v∧Rows.tomeLooksSpec.post enc Tryz.prog Tryz.f4 false true false false W args v W':=by
 have hW':=hW;obtain ⟨p,q,hA,hV,rfl,_,_⟩:=hW;have hA:DataW.TrodAll enc Tryz.prog W 0 (fun _=>true) true [36,45,68] args.toList ds p:=hA;obtain ⟨v0,vs0,d0,ds0,p0,q0,hargs0,rfl,rfl,h0,r0⟩:=trodAll_cons hA;obtain ⟨v1,vs1,d1,ds1,p1,q1,hargs1,rfl,rfl,h1,r1⟩:=trodAll_cons r0;obtain ⟨v2,vs2,d2,ds2,p2,q2,hargs2,rfl,rfl,h2,r2⟩:=trodAll_cons r1;obtain ⟨hn,rfl,rfl⟩:=trodAll_nil r2;obtain ⟨rfl,rfl⟩:=trodVars_none hV;obtain rfl:args=#[v0,v1,v2]:=by cases args;simp_all
 obtain ⟨cs0,a0,rfl,g0⟩:=zuQ Tryz.underlying36 Tryz.reads36 (hval 0 36 v0 rfl rfl) h0 (ztd hz (j:=0) rfl rfl);obtain ⟨z0_0,z0_1,z0_2,z0_3,z0_4,rfl,y0_0,y0_1,y0_2,y0_3,y0_4,y0_5⟩:=g0;obtain ⟨cs1,a1,rfl,g1⟩:=zuQ Tryz.underlying45 Tryz.reads45 (hval 1 45 v1 rfl rfl) h1 (ztd hz (j:=1) rfl rfl);obtain ⟨z1_0,rfl,y1_0⟩:=g1;obtain ⟨cs2,a2,rfl,g2⟩:=zuQ Tryz.underlying68 Tryz.reads68 (hval 2 68 v2 rfl rfl) h2 (ztd hz (j:=2) rfl rfl);subst g2;refine (zqu (ztm W) (r:=a0) y0_0 y0_1 y0_2 y0_3 y0_4 y0_5 (v:=a1) y1_0 (p:=a2) (Tryz.checks3_laid hL) (Tryz.kinds3_laid hL) (Tryz.lkinds3_laid hL)).mono ?_;rintro e W' ⟨h',r,rfl,st,rfl⟩;exact ⟨_,rfl,zFb zGd (by intro t ht;simp only[Tryz.params4,List.mem_cons,List.not_mem_nil,or_false] at ht;rcases ht with rfl|rfl|rfl <;> exact ⟨by kernel_rfl,of_decide_eq_true zeu⟩) hW' rfl ⟨rfl,rfl,rfl⟩ zeu Tryz.underlying4 st.below⟩
theorem zFd (os:Os) (args:Array Value):laidMetH Tryz.prog Rows.tomeLooksRow.laid ((World.doorLaid Tryz.prog 2000 os).forCall (fun _ _=>0) ⟨#[],args,[]⟩).memory:=
 laidMetH_of_parts3 (fuel:=8) (laidMet_of_run' 8 zeu zeu) zeu zeu
theorem zHN (os:Os) {H:Type} (enc:TypeId×Value→H):∃ places,DataW.whole enc Tryz.prog ((World.doorLaid Tryz.prog 2000 os).forCall (fun _ _=>0) ⟨#[],#[.agg #[.slice none 0 0,.slice none 0 0,.slice none 0 0,.slice none 0 0,.int .i64 0,.slice none 0 0,.int .i64 0,.int .u8 0],.agg #[.slice none 0 0],.agg #[.int .i64 0,.int .i64 0,.int .i64 0]],[]⟩).memory Tryz.f4.params.toList Rows.tomeLooksSpec.vars false (#[.agg #[.slice none 0 0,.slice none 0 0,.slice none 0 0,.slice none 0 0,.int .i64 0,.slice none 0 0,.int .i64 0,.int .u8 0],.agg #[.slice none 0 0],.agg #[.int .i64 0,.int .i64 0,.int .i64 0]]:Array Value).toList 8=some ([.agg [.agg [.nil],.nil,.agg [.nil,.nil],.agg [.lit (.int .i64 0),.nil],.agg [.lit (.int .i64 0),.lit (.int .u8 0)]],.agg [.nil],.agg [.lit (.int .i64 0),.lit (.int .i64 0),.lit (.int .i64 0)]],[],places):=
 ⟨[],by kernel_rfl⟩
theorem zHo (os:Os) (started:os.Started) (H:Type) (enc:TypeId×Value→H) (F:Stop.Interp) :
  ReturnsInHanded {} Tryz.checked os 4 .any ((OpenSpec.ofChange Rows.tomeLooksSpec).preRow enc Tryz.prog Tryz.f4 Rows.tomeLooksRow.domain false Rows.tomeLooksRow.laid) (((OpenSpec.ofChange Rows.tomeLooksSpec).at F).post enc Tryz.prog Tryz.f4 false true false false):=by
 obtain ⟨places,hx⟩:=zHN os enc;refine returnsInHanded_of_row (C:=Tryz.checked) (s:=OpenSpec.ofChange Rows.tomeLooksSpec) own started zeu Tryz.func4
  (witness_row_at (enc:=enc) (C:=Tryz.checked) false (World.doorLaid Tryz.prog 2000 os) #[.agg #[.slice none 0 0,.slice none 0 0,.slice none 0 0,.slice none 0 0,.int .i64 0,.slice none 0 0,.int .i64 0,.int .u8 0],.agg #[.slice none 0 0],.agg #[.int .i64 0,.int .i64 0,.int .i64 0]] rfl zeu zeu zeu
   (OpenSpec.preRow_of_cond 8 hx zeu (fun k hk=>by cases hk) zeu (zFd os _))) ?_
 intro W base args ds gs before hval hW _ _ hz hL _ _;exact zFt H enc W base args ds gs before hval hW hz hL
theorem zHW:(Rows.tomeLooksRow.inPlace == Tryz.prog.inPlace 4)=true:=by kernel_rfl
theorem zHV:(Rows.tomeLooksRow.unfollowed == Tryz.prog.unfollowed 4)=true:=by kernel_rfl
theorem zHU:(Rows.tomeLooksRow.recurses == Tryz.prog.recurses 4)=true:=by kernel_rfl
theorem zHT:(Rows.tomeLooksRow.named == Tryz.prog.varsNamed 4)=true:=by kernel_rfl
theorem zHp:joinedFacts Tryz.prog 4 Tryz.f4 (OpenSpec.ofChange Rows.tomeLooksSpec).bare Rows.tomeLooksRow=true:=by
 unfold joinedFacts;rw[zHW,zHV,zHU,zHT]
 kernel_rfl
theorem zId:Rows.TomeLooksSaid:=
 OpenClaim.holds_of_cond 4 Tryz.f4 rfl rfl rfl rfl rfl rfl rfl ⟨rfl,rfl,rfl,rfl,rfl⟩ rfl rfl rfl rfl rfl zeu Tryz.func4 zHp
  (of_decide_eq_true zeu) (by unfold Func.isWrapper;first|(rw[if_pos (by decide +kernel)];kernel_rfl)|(rw[if_neg (by decide +kernel)];exact ⟨rfl,rfl⟩))
  (fun os started H enc _ F=>by rw[OpenClaim.pre_eq_preRow];exact zHo os started H enc F)
theorem plain (f : FuncId) (fn : Func) (hf : Tryz.pinned.checked.prog.funcNamed "postil/postillaw10.TomeLooks" = some f) (hfn : Tryz.pinned.checked.prog.funcs[f]? = some fn) :
  false=Tryz.pinned.checked.prog.looks []∧∀ (j:Nat) t,fn.params[j]?=some t→Tryz.pinned.checked.prog.wantsStandIn t=false:=by
 obtain rfl : f = 4 := Option.some.inj ((show Tryz.prog.funcNamed "postil/postillaw10.TomeLooks" = some 4 by kernel_rfl).symm.trans hf) |>.symm
 obtain rfl:fn=Tryz.f4:=(Option.some.inj (Tryz.func4.symm.trans hfn)).symm;refine ⟨by kernel_rfl,fun j t ht=>?_⟩;have hm:=Array.mem_of_getElem? ht;have hm:t∈([36,45,68]:List TypeId):=by have:=Array.mem_toList_iff.2 hm;rwa [Tryz.params4] at this
 simp only[List.mem_cons,List.not_mem_nil,or_false] at hm
 rcases hm with rfl|rfl|rfl
 ·exact (show Tryz.prog.wantsStandIn 36=false by kernel_rfl)
 ·exact (show Tryz.prog.wantsStandIn 45=false by kernel_rfl)
 ·exact (show Tryz.prog.wantsStandIn 68=false by kernel_rfl)
/-- the card -/
theorem card:Rows.TomeLooksCardSaid:=
 Claim7.holds_tied_plain_at .later [] _ _ _ _ zId (fun _ h=>by cases h) zeu (fun _ h=>by cases h) tomeLooks_row_tie rfl ⟨rfl,rfl⟩ zeu rfl plain zeu
end Go.Proofs.YtjkkoclmagdpoaaGreatDoor.tomeLooks
namespace Go.Pk
end Go.Pk
