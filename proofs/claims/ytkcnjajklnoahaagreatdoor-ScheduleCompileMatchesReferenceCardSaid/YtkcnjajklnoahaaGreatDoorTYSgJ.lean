/-
  ScheduleCompileMatchesReference returns true for every plan, and leaves its arguments as they were.
  Conditions: none beyond the given card's own (the listed variable as the program's text lays it; the form's own reach).
-/
import Derived.Test.YtkcnjajklnoahaaGreatDoorTYSfJ
import Derived.Test.YtkcnjajklnoahaaGreatDoorTie
set_option linter.unusedVariables false
set_option linter.unusedSimpArgs false
set_option maxRecDepth 100000
namespace Go.Proofs.YtkcnjajklnoahaaGreatDoor.law5
open Go Go.Abs Go.ChangeShapes Go.WideShapes Go.ChangeAt Go.RowKit
theorem own:ownKnob Tryz.prog.godebug=none:=by kernel_rfl
theorem pure5 {H:Type} (ds gs:List (DataW H)) (hz:(DataW.weightsEach Tryz.prog (Tryz.f5.params.toList++(OpenSpec.ofChange Rows.scheduleCompileMatchesReferenceSpec).bare.plain.varTypes Tryz.prog) (ds++gs)).all (·<=reachBytes)=true) (h:Wj Tryz.prog 20 Tryz.f5.params.toList ds):Pure Tryz.prog gl0 5 (argsOf Tryz.prog 20 Tryz.f5.params.toList ds) (.bool true):=by
 have hpar:Tryz.f5.params.toList=[32]:=by rw [Tryz.params5]
 have hvt:(OpenSpec.ofChange Rows.scheduleCompileMatchesReferenceSpec).bare.plain.varTypes Tryz.prog=[]:=by kernel_rfl
 rw [hvt,List.append_nil,hpar,List.all_eq_true] at hz
 rw [hpar] at h |-
 match ds,h with
 | [x0],⟨h0,_⟩ =>
  have z0:Sz 32 x0:=fun k hk=>of_decide_eq_true (hz k (by simp only [List.cons_append,DataW.weightsEach,List.mem_append];exact .inl hk))
  obtain ⟨c0,b0,a0⟩:=arg_plan (n:=14) h0 z0
  refine Qz (law5 c0 b0) ⟨?_,trivial⟩
  ·exact a0
theorem contract (H:Type) (enc:TypeId×Value->H) (W:World) (base:Nat) (args:Array Value) (ds gs:List (DataW H)) (before:List MemPlace)
  (hgl:∀ g,Rep W (G0 top) (gl0 g) (.pointer (some ⟨g,0,none⟩))) (hval:∀ (j:Nat) t v,Tryz.f5.params[j]? = some t->args[j]? = some v->Value.okWide Tryz.prog W .any base t v)
  (hW:DataW.Whole enc Tryz.prog Tryz.f5.params.toList Rows.scheduleCompileMatchesReferenceSpec.vars false W args.toList ds gs before)
  (hz:(DataW.weightsEach Tryz.prog (Tryz.f5.params.toList++(OpenSpec.ofChange Rows.scheduleCompileMatchesReferenceSpec).bare.plain.varTypes Tryz.prog) (ds++gs)).all (·<=reachBytes)=true) :
  Calls Tryz.prog 5 args W fun e W'=>∃ v,e=.returned v/\Rows.scheduleCompileMatchesReferenceSpec.post enc Tryz.prog Tryz.f5 false true false false W args v W' :=
 Js (gl:=gl0) (d:=20) (bt:=4) rfl (by kernel_rfl) Tryz.underlying4 (by kernel_rfl) (by kernel_rfl) (fun ds hl=>by
   have h2:ds.length=1:=by rw [hl,Tryz.params5];rfl
   match ds,h2 with
   | [a],_=>exact ⟨rfl,rfl,rfl⟩)
  hgl hval hW (pure5 ds gs hz)
noncomputable def Xy (os:Os):World :=
 { World.holding Tryz.prog os ⟨#[],#[],[]⟩ with heap:=(World.holding Tryz.prog os ⟨#[],#[],[]⟩).heap.modify 0 fun
   | .cells _ t frozen=>.cells #[.int .i64 24000,.int .i64 1001,.int .i64 24,.int .i64 0,.int .i64 24,.int .i64 1,.int .i64 24,.int .i64 0,.int .i64 25,.int .i64 1,.int .i64 25,.int .i64 0,.int .i64 30000,.int .i64 1001,.int .i64 30,.int .i64 2,.int .i64 30,.int .i64 1,.int .i64 30,.int .i64 0,.int .i64 50,.int .i64 1,.int .i64 50,.int .i64 0,.int .i64 60000,.int .i64 1001,.int .i64 60,.int .i64 4,.int .i64 60,.int .i64 1,.int .i64 60,.int .i64 0] t frozen
   | o=>o }
def wit:Array Value:=#[.agg #[.int .i64 0,.int .i64 0,.int .i64 0,.int .i64 0,.slice none 0 0,.int .i64 0,.int .i64 0,.int .i64 0,.int .i64 0,.slice none 0 0,.slice none 0 0,.slice none 0 0,.slice none 0 0]]
theorem Ju (os:Os):laidMet Tryz.prog Rows.scheduleCompileMatchesReferenceRow.laid ((Xy os).forCall (fun _ _=>0) ⟨#[],wit,[]⟩).memory :=
 laidMet_of_run' 8 (by kernel_rfl) (by kernel_rfl)
theorem reads (os:Os) {H:Type} (enc:TypeId×Value->H):∃ places,DataW.whole enc Tryz.prog ((Xy os).forCall (fun _ _=>0) ⟨#[],wit,[]⟩).memory Tryz.f5.params.toList Rows.scheduleCompileMatchesReferenceSpec.vars false wit.toList 8=some ([.agg [.lit (.int .i64 0),.agg [.lit (.int .i64 0),.lit (.int .i64 0)],.agg [.lit (.int .i64 0),.nil],.lit (.int .i64 0),.lit (.int .i64 0),.lit (.int .i64 0),.lit (.int .i64 0),.nil,.nil,.nil,.nil]],[],places) :=
 ⟨[],by kernel_rfl⟩
theorem lifted (os:Os) (started:os.Started) (H:Type) (enc:TypeId×Value->H) (F:Stop.Interp) :
  ReturnsInHanded {} Tryz.checked os 5 .any ((OpenSpec.ofChange Rows.scheduleCompileMatchesReferenceSpec).preRow enc Tryz.prog Tryz.f5 Rows.scheduleCompileMatchesReferenceRow.domain false Rows.scheduleCompileMatchesReferenceRow.laid) (((OpenSpec.ofChange Rows.scheduleCompileMatchesReferenceSpec).at F).post enc Tryz.prog Tryz.f5 false true false false):=by
 obtain ⟨places,hx⟩:=reads os enc
 refine returnsInHanded_of_row (C:=Tryz.checked) (s:=OpenSpec.ofChange Rows.scheduleCompileMatchesReferenceSpec) own started (by kernel_rfl) Tryz.func5
  (witness_row_at (enc:=enc) (C:=Tryz.checked) false (Xy os) wit rfl (by kernel_rfl) (by kernel_rfl) (by kernel_rfl)
   (OpenSpec.preRow_of_cond 8 hx (by kernel_rfl) (fun k hk=>by cases hk) (by kernel_rfl) (Ju os))) ?_
 intro W base args ds gs before hval hW _ _ hz hL _ _
 rw [MakeChecks.laidMetH_plain _ _ _ (by kernel_rfl)] at hL
 exact contract H enc W base args ds gs before (gl_rep hL) hval hW hz
theorem fIn:Tryz.pinned.checked.prog.inPlace 5=Rows.scheduleCompileMatchesReferenceRow.inPlace:=by kernel_rfl
theorem fUn:Tryz.pinned.checked.prog.unfollowed 5=Rows.scheduleCompileMatchesReferenceRow.unfollowed:=by kernel_rfl
theorem fRe:Tryz.pinned.checked.prog.recurses 5=Rows.scheduleCompileMatchesReferenceRow.recurses:=by
 unfold Program.recurses
 rw [fUn]
 exact Bool.true_or _
theorem fNa:Tryz.pinned.checked.prog.varsNamed 5=Rows.scheduleCompileMatchesReferenceRow.named:=by kernel_rfl
theorem joined:joinedFacts Tryz.pinned.checked.prog 5 Tryz.f5 (OpenSpec.ofChange Rows.scheduleCompileMatchesReferenceSpec).bare Rows.scheduleCompileMatchesReferenceRow=true:=by
 unfold joinedFacts
 rw [fIn,fUn,fRe,fNa]
 kernel_rfl
theorem said:Rows.ScheduleCompileMatchesReferenceSaid :=
 OpenClaim.holds_of_cond 5 Tryz.f5 rfl rfl rfl rfl rfl rfl rfl ⟨rfl,rfl,rfl,rfl,rfl⟩ rfl rfl rfl rfl rfl (by kernel_rfl) Tryz.func5 joined
  (of_decide_eq_true (by kernel_rfl)) (by unfold Func.isWrapper;first | (rw [if_pos (by decide +kernel)];kernel_rfl) | (rw [if_neg (by decide +kernel)];exact ⟨rfl,rfl⟩))
  (fun os started H enc _ F=>by rw [OpenClaim.pre_eq_preRow];exact lifted os started H enc F)
theorem plain (f : FuncId) (fn : Func) (hf : Tryz.pinned.checked.prog.funcNamed "onair/onairlaw09.ScheduleCompileMatchesReference" = some f) (hfn : Tryz.pinned.checked.prog.funcs[f]? = some fn) :
  true=Tryz.pinned.checked.prog.looks []/\∀ (j:Nat) t,fn.params[j]? = some t->Tryz.pinned.checked.prog.wantsStandIn t=false:=by
 obtain rfl : f = 5 := Option.some.inj ((show Tryz.prog.funcNamed "onair/onairlaw09.ScheduleCompileMatchesReference" = some 5 by kernel_rfl).symm.trans hf) |>.symm
 obtain rfl:fn=Tryz.f5:=(Option.some.inj (Tryz.func5.symm.trans hfn)).symm
 refine ⟨by kernel_rfl,fun j t ht=>?_⟩
 rw [Tryz.params5] at ht
 have hm:=Array.mem_of_getElem? ht
 simp only [List.mem_toArray,List.mem_cons,List.not_mem_nil,or_false] at hm
 rcases hm with rfl
 ·exact (show Tryz.prog.wantsStandIn 32=false by kernel_rfl)
end Go.Proofs.YtkcnjajklnoahaaGreatDoor.law5
namespace Go.Proofs.YtkcnjajklnoahaaGreatDoor
open Go
theorem scheduleCompileMatchesReference_card:Rows.ScheduleCompileMatchesReferenceCardSaid :=
 Claim7.holds_tied_plain_at .later [] _ _ _ _ law5.said (fun _ h=>by cases h) (by kernel_rfl) (fun _ h=>by cases h) scheduleCompileMatchesReference_row_tie rfl ⟨rfl,rfl⟩ (by kernel_rfl) rfl law5.plain (by kernel_rfl)
#print axioms scheduleCompileMatchesReference_card
end Go.Proofs.YtkcnjajklnoahaaGreatDoor
