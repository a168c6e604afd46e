/-
  ReplanOrdersMatchReference returns true for every order and every string, and leaves its arguments as they were.
  Conditions: none beyond the given card's own (the listed variables as the program's text lays them; the form's own reach).
-/
import Derived.Test.YtfliagpjbbkijaaGreatDoorVBWlH
import Derived.Test.YtfliagpjbbkijaaGreatDoorVBRxF
import Derived.Test.YtfliagpjbbkijaaGreatDoorVBRxG
set_option linter.all false
set_option maxRecDepth 100000
namespace Go.Proofs.YtfliagpjbbkijaaGreatDoor.law5
noncomputable section
open Go Go.Abs Go.ChangeShapes Go.WideShapes Go.ChangeAt Go.RowKit
def own:ownKnob Tryz.prog.godebug=none:=by kernel_rfl
def auA{H:Type}{a0 a1:Addr}(aK:a0≠a1)(ds gs:List (DataW H))(hz:(DataW.weightsEach Tryz.prog (Tryz.f5.params.toList++(OpenSpec.ofChange Rows.replanOrdersMatchReferenceSpec).bare.plain.varTypes Tryz.prog) (ds++gs)).all (·<=reachBytes)=true)(h:pe Tryz.prog 20 Tryz.f5.params.toList ds):Pure Tryz.prog (fT a0 a1) 5 (CY Tryz.prog 20 Tryz.f5.params.toList ds) (.bool true):=by
 have auB:Tryz.f5.params.toList=[30,9]:=by rw[Tryz.params5]
 have hvt:(OpenSpec.ofChange Rows.replanOrdersMatchReferenceSpec).bare.plain.varTypes Tryz.prog=[]:=by kernel_rfl
 rw[hvt,zzau,auB,zzbf]at hz;rw[auB]at h |-
 match ds,h with
 |[x0,x1],⟨h0,h1,_⟩=>
  have z0:Sz 30 x0:=fun k hk=>of_decide_eq_true (hz k (by simp only[zzaf,DataW.weightsEach,zzat];exact .inl hk));have z1:Sz 9 x1:=fun k hk=>of_decide_eq_true (hz k (by simp only[zzaf,DataW.weightsEach,zzat];exact .inr (.inl hk)));obtain⟨o,ob,oa⟩:=RY (n:=15) h0 z0;obtain⟨s,sa⟩:=afV (n:=19) h1;refine Xl (law5 aK o s) ⟨?_,?_,trivial⟩
  ·exact oa
  rw[sa];exact Ps
def aag{a0 a1:Addr}(aK:a0≠a1)(H:Type)(enc:TypeId×Value->H)(W:World)(fM:Nat)(args:PQ)(ds gs:List (DataW H))(before:List MemPlace)
  (fh:∀g,au W (G0 CW) (fT a0 a1 g) (.pointer (some ⟨g,0,none⟩)))(dx:∀(j:Nat)t v,Tryz.f5.params[j]?=some t->args[j]?=some v->Value.okWide Tryz.prog W .any fM t v)
  (hW:DataW.Whole enc Tryz.prog Tryz.f5.params.toList Rows.replanOrdersMatchReferenceSpec.vars false W args.toList ds gs before)
  (hz:(DataW.weightsEach Tryz.prog (Tryz.f5.params.toList++(OpenSpec.ofChange Rows.replanOrdersMatchReferenceSpec).bare.plain.varTypes Tryz.prog) (ds++gs)).all (·<=reachBytes)=true):
  Calls Tryz.prog 5 args W fun e W'=>∃v,e=.returned v/\Rows.replanOrdersMatchReferenceSpec.post enc Tryz.prog Tryz.f5 false true false false W args v W':=
 CZ (gl:=fT a0 a1) (d:=20) (bt:=4) rfl (by kernel_rfl) Tryz.underlying4 (by kernel_rfl) (by kernel_rfl) (fun ds hl=>by
   have h2:ds.length=2:=by rw[hl,Tryz.params5];rfl
   match ds,h2 with
   |[a,b],_=>exact⟨rfl,rfl,rfl⟩)
  fh dx hW (auA aK ds gs hz)
def rU(os:Os):World:=
 let w:=World.holding Tryz.prog os ⟨#[],#[],[]⟩
 {w with heap:=((((w.heap.modify 2 fun
   |.cells _ t frozen=>.cells #[.int .i64 24000,.int .i64 1001,.int .i64 24,.int .i64 0,.int .i64 24,.int .i64 1,.int .i64 24,.int .i64 0,.int .i64 25,.int .i64 1,.int .i64 25,.int .i64 0,.int .i64 30000,.int .i64 1001,.int .i64 30,.int .i64 2,.int .i64 30,.int .i64 1,.int .i64 30,.int .i64 0,.int .i64 50,.int .i64 1,.int .i64 50,.int .i64 0,.int .i64 60000,.int .i64 1001,.int .i64 60,.int .i64 4,.int .i64 60,.int .i64 1,.int .i64 60,.int .i64 0] t frozen
   |o=>o).modify 0 fun
   |.cells _ t frozen=>.cells #[.iface 376 (.pointer (some ⟨w.heap.size,0,none⟩))] t frozen
   |o=>o).modify 1 fun
   |.cells _ t frozen=>.cells #[.iface 376 (.pointer (some ⟨w.heap.size+1,0,none⟩))] t frozen
   |o=>o).push (.cells #[.string ⟨#[110,111,32,101,110,99,111,100,105,110,103]⟩] 399)).push (.cells #[.string ⟨#[110,111,32,111,114,100,101,114]⟩] 399)}
def wit:PQ:=#[.agg #[.int .i64 0,.int .i64 0,.int .i64 0,.int .i64 0,.int .i64 0,.int .i64 0,.int .i64 0,.int .i64 0,.int .i64 0,.int .i64 0,.int .i64 0,.int .i64 0,.slice none 0 0,.int .i64 0,.int .i64 0,.int .i64 0,.int .i64 0,.int .i64 0,.int .i64 0,.int .i64 0,.int .i64 0,.int .i64 0,.int .i64 0,.int .i64 0,.int .i64 0,.string ⟨#[]⟩],.string ⟨#[]⟩]
def aah(os:Os):laidMet Tryz.prog Rows.replanOrdersMatchReferenceRow.laid ((rU os).forCall (fun _ _=>0) ⟨#[],wit,[]⟩).memory:=
 laidMet_of_run' 8 (by kernel_rfl) (by kernel_rfl)
def reads(os:Os){H:Type}(enc:TypeId×Value->H):∃places,DataW.whole enc Tryz.prog ((rU os).forCall (fun _ _=>0) ⟨#[],wit,[]⟩).memory Tryz.f5.params.toList Rows.replanOrdersMatchReferenceSpec.vars false wit.toList 8=some ([.agg [.lit (.int .i64 0),.lit (.int .i64 0),.lit (.int .i64 0),.lit (.int .i64 0),.lit (.int .i64 0),.lit (.int .i64 0),.agg [.lit (.int .i64 0),.lit (.int .i64 0),.lit (.int .i64 0),.lit (.int .i64 0),.lit (.int .i64 0),.lit (.int .i64 0),.nil],.agg [.lit (.int .i64 0),.lit (.int .i64 0),.lit (.int .i64 0),.lit (.int .i64 0),.lit (.int .i64 0),.lit (.int .i64 0),.lit (.int .i64 0),.lit (.int .i64 0)],.agg [.lit (.int .i64 0),.lit (.int .i64 0),.lit (.int .i64 0),.lit (.int .i64 0),.lit (.string [])]],.lit (.string [])],[],places):=
 ⟨[],by kernel_rfl⟩
def lifted(os:Os)(started:os.Started)(H:Type)(enc:TypeId×Value->H)(F:Stop.Interp):
  ReturnsInHanded {} Tryz.checked os 5 .any ((OpenSpec.ofChange Rows.replanOrdersMatchReferenceSpec).preRow enc Tryz.prog Tryz.f5 Rows.replanOrdersMatchReferenceRow.domain false Rows.replanOrdersMatchReferenceRow.laid) (((OpenSpec.ofChange Rows.replanOrdersMatchReferenceSpec).at F).post enc Tryz.prog Tryz.f5 false true false false):=by
 obtain⟨places,hx⟩:=reads os enc
 refine returnsInHanded_of_row (C:=Tryz.checked) (s:=OpenSpec.ofChange Rows.replanOrdersMatchReferenceSpec) own started (by kernel_rfl) Tryz.func5
  (
   witness_row_at (enc:=enc) (C:=Tryz.checked) false (rU os) wit rfl (by kernel_rfl) (by kernel_rfl) (by kernel_rfl)
   (OpenSpec.preRow_of_cond 8 hx (by kernel_rfl) (fun k hk=>by cases hk) (by kernel_rfl) (aah os))) ?_
 intro W fM args ds gs before dx hW _ _ hz hL _ _;rw[MakeChecks.laidMetH_plain _ _ _ (by kernel_rfl)]at hL;obtain⟨a0,a1,aK,hg⟩:=afW hL;exact aag aK H enc W fM args ds gs before hg dx hW hz
def said:Rows.ReplanOrdersMatchReferenceSaid:=
 OpenClaim.holds_of_cond 5 Tryz.f5 rfl rfl rfl rfl rfl rfl rfl ⟨rfl,rfl,rfl,rfl,rfl⟩ rfl rfl rfl rfl rfl (by kernel_rfl) Tryz.func5 LD
  (of_decide_eq_true (by kernel_rfl)) (by unfold Func.isWrapper;first|(rw[if_pos (by decide+kernel)];kernel_rfl)|(rw[if_neg (by decide+kernel)];exact⟨rfl,rfl⟩))
  (fun os started H enc _ F=>by rw[OpenClaim.pre_eq_preRow];exact lifted os started H enc F)
def plain(f:FuncId)(fn:Func)(hf:Tryz.pinned.checked.prog.funcNamed "onair/onairlaw15.ReplanOrdersMatchReference"=some f)(hfn:Tryz.pinned.checked.prog.funcs[f]?=some fn):
  true=Tryz.pinned.checked.prog.looks []/\∀(j:Nat)t,fn.params[j]?=some t->Tryz.pinned.checked.prog.wantsStandIn t=false:=by
 obtain rfl:f=5:=Option.some.inj ((show Tryz.prog.funcNamed "onair/onairlaw15.ReplanOrdersMatchReference"=some 5 by kernel_rfl).symm.trans hf) |>.symm;obtain rfl:fn=Tryz.f5:=(Option.some.inj (Tryz.func5.symm.trans hfn)).symm;refine⟨by kernel_rfl,fun j t ht=>?_⟩;rw[Tryz.params5]at ht;have hm:=zzda ht;simp only[List.mem_toArray,zzao,zzcm,or_false]at hm;obtain rfl|rfl:=hm
 ·exact(show Tryz.prog.wantsStandIn 30=false by kernel_rfl)
 exact(show Tryz.prog.wantsStandIn 9=false by kernel_rfl)
end
end Go.Proofs.YtfliagpjbbkijaaGreatDoor.law5
namespace Go.Proofs.YtfliagpjbbkijaaGreatDoor
open Go
theorem replanOrdersMatchReference_card:Rows.ReplanOrdersMatchReferenceCardSaid:=
 Claim7.holds_tied_plain_at .later [] _ _ _ _ law5.said (fun _ h=>by cases h) law5.fWf (fun _ h=>by cases h) replanOrdersMatchReference_row_tie rfl ⟨rfl,rfl⟩ law5.fMa rfl law5.plain law5.fGo
#print axioms replanOrdersMatchReference_card
