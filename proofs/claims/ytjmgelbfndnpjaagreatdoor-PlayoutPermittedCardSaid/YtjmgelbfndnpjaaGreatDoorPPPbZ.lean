/-
  PlayoutPermitted returns true for every plan and every frame, and leaves its arguments as they were.
  Conditions: none beyond the given card's own (the listed variables as the program's text lays them; the form's own reach).
-/
import Derived.Test.YtjmgelbfndnpjaaGreatDoorPPRgG
import Derived.Test.YtjmgelbfndnpjaaGreatDoorPPPbB
import Derived.Test.YtjmgelbfndnpjaaGreatDoorTie
set_option linter.unusedVariables false
set_option linter.unusedSimpArgs false
set_option maxRecDepth 100000
namespace Go.Proofs.YtjmgelbfndnpjaaGreatDoor.law3
open Go Go.Abs Go.ChangeShapes Go.WideShapes Go.ChangeAt Go.RowKit
theorem own:ownKnob Tryz.prog.godebug=none:=by kernel_rfl
theorem pure3 {H:Type} (ds gs:List (DataW H)) (hz:(DataW.weightsEach Tryz.prog (Tryz.f3.params.toList++(OpenSpec.ofChange Rows.playoutPermittedSpec).bare.plain.varTypes Tryz.prog) (ds++gs)).all (·<=reachBytes)=true) (h:TypedAll Tryz.prog 20 Tryz.f3.params.toList ds):Pure Tryz.prog gl0 3 (argsOf Tryz.prog 20 Tryz.f3.params.toList ds) (.bool true):=by
 have hpar:Tryz.f3.params.toList=[32,3]:=by rw [Tryz.params3]
 have hvt:(OpenSpec.ofChange Rows.playoutPermittedSpec).bare.plain.varTypes Tryz.prog=[]:=by kernel_rfl
 rw [hvt,List.append_nil,hpar,List.all_eq_true] at hz
 rw [hpar] at h |-
 match ds,h with
 | [x0,x1],⟨h0,h1,_⟩ =>
  have z0:Sz 32 x0:=fun k hk=>of_decide_eq_true (hz k (by simp only [List.cons_append,DataW.weightsEach,List.mem_append];exact .inl hk))
  have z1:Sz 3 x1:=fun k hk=>of_decide_eq_true (hz k (by simp only [List.cons_append,DataW.weightsEach,List.mem_append];exact .inr (.inl hk)))
  obtain ⟨p,b,a⟩:=arg_plan (n:=14) h0 z0
  obtain ⟨m,d1,d2⟩:=arg_int (n:=19) h1
  refine Yh (Lw.law3 p m b.ok b.shl b.bkl (fun e he=>(b.ens e he).1.2.2.2.1.2) d1) ⟨?_,?_,trivial⟩
  ·exact a
  ·rw [d2];exact Wk.refl _
theorem contract (H:Type) (enc:TypeId×Value->H) (W:World) (base:Nat) (args:Array Value) (ds gs:List (DataW H)) (before:List MemPlace)
  (hgl:∀ g,Rep W (G0 top) (gl0 g) (.pointer (some ⟨g,0,none⟩))) (hval:∀ (j:Nat) t v,Tryz.f3.params[j]? = some t->args[j]? = some v->Value.okWide Tryz.prog W .any base t v)
  (hW:DataW.Whole enc Tryz.prog Tryz.f3.params.toList Rows.playoutPermittedSpec.vars false W args.toList ds gs before)
  (hz:(DataW.weightsEach Tryz.prog (Tryz.f3.params.toList++(OpenSpec.ofChange Rows.playoutPermittedSpec).bare.plain.varTypes Tryz.prog) (ds++gs)).all (·<=reachBytes)=true) :
  Calls Tryz.prog 3 args W fun e W'=>∃ v,e=.returned v/\Rows.playoutPermittedSpec.post enc Tryz.prog Tryz.f3 false true false false W args v W' :=
 law_contract (gl:=gl0) (d:=20) (bt:=4) rfl (by kernel_rfl) Tryz.underlying4 (by kernel_rfl) (by kernel_rfl) (fun ds hl=>by
   have h2:ds.length=2:=by rw [hl,Tryz.params3];rfl
   match ds,h2 with
   | [a,b],_=>exact ⟨rfl,rfl,rfl⟩)
  hgl hval hW (pure3 ds gs hz)
def lay0:Obj->Obj
 | .cells _ t frozen=>.cells #[.int .i64 24000,.int .i64 1001,.int .i64 24,.int .i64 0,.int .i64 24,.int .i64 1,.int .i64 24,.int .i64 0,.int .i64 25,.int .i64 1,.int .i64 25,.int .i64 0,.int .i64 30000,.int .i64 1001,.int .i64 30,.int .i64 2,.int .i64 30,.int .i64 1,.int .i64 30,.int .i64 0,.int .i64 50,.int .i64 1,.int .i64 50,.int .i64 0,.int .i64 60000,.int .i64 1001,.int .i64 60,.int .i64 4,.int .i64 60,.int .i64 1,.int .i64 60,.int .i64 0] t frozen
 | o=>o
def lay1:Obj->Obj
 | .cells _ t frozen=>.cells #[.int .u32 0,.int .u32 274646895,.int .u32 549293790,.int .u32 820201905,.int .u32 1098587580,.int .u32 1361435347,.int .u32 1640403810,.int .u32 1905808397,.int .u32 2197175160,.int .u32 2460548119,.int .u32 2722870694,.int .u32 2987750089,.int .u32 3280807620,.int .u32 3553878443,.int .u32 3811616794,.int .u32 4084100981] t frozen
 | o=>o
noncomputable def laidWorld (os:Os):World :=
 { World.holding Tryz.prog os ⟨#[],#[],[]⟩ with heap:=((World.holding Tryz.prog os ⟨#[],#[],[]⟩).heap.modify 0 lay0).modify 1 lay1 }
def wit:Array Value:=#[.agg #[.int .i64 0,.int .i64 0,.int .i64 0,.int .i64 0,.slice none 0 0,.int .i64 0,.int .i64 0,.int .i64 0,.int .i64 0,.slice none 0 0,.slice none 0 0,.slice none 0 0,.slice none 0 0],.int .i64 0]
theorem laid_met (os:Os):laidMet Tryz.prog Rows.playoutPermittedRow.laid ((laidWorld os).forCall (fun _ _=>0) ⟨#[],wit,[]⟩).memory :=
 laidMet_of_run' 8 (by kernel_rfl) (by kernel_rfl)
theorem reads (os:Os) {H:Type} (enc:TypeId×Value->H):∃ places,DataW.whole enc Tryz.prog ((laidWorld os).forCall (fun _ _=>0) ⟨#[],wit,[]⟩).memory Tryz.f3.params.toList Rows.playoutPermittedSpec.vars false wit.toList 8=some ([.agg [.lit (.int .i64 0),.agg [.lit (.int .i64 0),.lit (.int .i64 0)],.agg [.lit (.int .i64 0),.nil],.lit (.int .i64 0),.lit (.int .i64 0),.lit (.int .i64 0),.lit (.int .i64 0),.nil,.nil,.nil,.nil],.lit (.int .i64 0)],[],places) :=
 ⟨[],by kernel_rfl⟩
theorem lifted (os:Os) (started:os.Started) (H:Type) (enc:TypeId×Value->H) (F:Stop.Interp) :
  ReturnsInHanded {} Tryz.checked os 3 .any ((OpenSpec.ofChange Rows.playoutPermittedSpec).preRow enc Tryz.prog Tryz.f3 Rows.playoutPermittedRow.domain false Rows.playoutPermittedRow.laid) (((OpenSpec.ofChange Rows.playoutPermittedSpec).at F).post enc Tryz.prog Tryz.f3 false true false false):=by
 obtain ⟨places,hx⟩:=reads os enc
 refine returnsInHanded_of_row (C:=Tryz.checked) (s:=OpenSpec.ofChange Rows.playoutPermittedSpec) own started (by kernel_rfl) Tryz.func3
  (witness_row_at (enc:=enc) (C:=Tryz.checked) false (laidWorld os) wit rfl (by kernel_rfl) (by kernel_rfl) (by kernel_rfl)
   (OpenSpec.preRow_of_cond 8 hx (by kernel_rfl) (fun k hk=>by cases hk) (by kernel_rfl) (laid_met os))) ?_
 intro W base args ds gs before hval hW _ _ hz hL _ _
 rw [MakeChecks.laidMetH_plain _ _ _ (by kernel_rfl)] at hL
 exact contract H enc W base args ds gs before (gl_rep hL) hval hW hz
theorem fIn:Tryz.pinned.checked.prog.inPlace 3=Rows.playoutPermittedRow.inPlace:=by kernel_rfl
theorem fUn:Tryz.pinned.checked.prog.unfollowed 3=Rows.playoutPermittedRow.unfollowed:=by kernel_rfl
theorem fRe:Tryz.pinned.checked.prog.recurses 3=Rows.playoutPermittedRow.recurses:=by
 unfold Program.recurses
 rw [fUn]
 exact Bool.true_or _
theorem fNa:Tryz.pinned.checked.prog.varsNamed 3=Rows.playoutPermittedRow.named:=by kernel_rfl
theorem joined:joinedFacts Tryz.pinned.checked.prog 3 Tryz.f3 (OpenSpec.ofChange Rows.playoutPermittedSpec).bare Rows.playoutPermittedRow=true:=by
 unfold joinedFacts
 rw [fIn,fUn,fRe,fNa]
 kernel_rfl
theorem said:Rows.PlayoutPermittedSaid :=
 OpenClaim.holds_of_cond 3 Tryz.f3 rfl rfl rfl rfl rfl rfl rfl ⟨rfl,rfl,rfl,rfl,rfl⟩ rfl rfl rfl rfl rfl (by kernel_rfl) Tryz.func3 joined
  (of_decide_eq_true (by kernel_rfl)) (by unfold Func.isWrapper;first | (rw [if_pos (by decide +kernel)];kernel_rfl) | (rw [if_neg (by decide +kernel)];exact ⟨rfl,rfl⟩))
  (fun os started H enc _ F=>by rw [OpenClaim.pre_eq_preRow];exact lifted os started H enc F)
theorem plain (f : FuncId) (fn : Func) (hf : Tryz.pinned.checked.prog.funcNamed "onair/onairlaw19.PlayoutPermitted" = some f) (hfn : Tryz.pinned.checked.prog.funcs[f]? = some fn) :
  true=Tryz.pinned.checked.prog.looks []/\∀ (j:Nat) t,fn.params[j]? = some t->Tryz.pinned.checked.prog.wantsStandIn t=false:=by
 obtain rfl : f = 3 := Option.some.inj ((show Tryz.prog.funcNamed "onair/onairlaw19.PlayoutPermitted" = some 3 by kernel_rfl).symm.trans hf) |>.symm
 obtain rfl:fn=Tryz.f3:=(Option.some.inj (Tryz.func3.symm.trans hfn)).symm
 refine ⟨by kernel_rfl,fun j t ht=>?_⟩
 rw [Tryz.params3] at ht
 have hm:=Array.mem_of_getElem? ht
 simp only [List.mem_toArray,List.mem_cons,List.not_mem_nil,or_false] at hm
 rcases hm with rfl | rfl
 ·exact (show Tryz.prog.wantsStandIn 32=false by kernel_rfl)
 ·exact (show Tryz.prog.wantsStandIn 3=false by kernel_rfl)
end Go.Proofs.YtjmgelbfndnpjaaGreatDoor.law3
namespace Go.Proofs.YtjmgelbfndnpjaaGreatDoor
open Go
theorem playoutPermitted_card:Rows.PlayoutPermittedCardSaid :=
 Claim7.holds_tied_plain_at .later [] _ _ _ _ law3.said (fun _ h=>by cases h) (by kernel_rfl) (fun _ h=>by cases h) playoutPermitted_row_tie rfl ⟨rfl,rfl⟩ (by kernel_rfl) rfl law3.plain (by kernel_rfl)
#print axioms playoutPermitted_card
end Go.Proofs.YtjmgelbfndnpjaaGreatDoor
