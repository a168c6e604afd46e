/-
  ReplanSold returns true for every plan, every list of orders and every order, and leaves its arguments as they were.
  Conditions: none beyond the given card's own (the listed variables as the program's text lays them; the form's own reach).
-/
import Derived.Test.YthjppoincojfkaaGreatDoorRTRqV
import Derived.Test.YthjppoincojfkaaGreatDoorRTRtF
import Derived.Test.YthjppoincojfkaaGreatDoorRTRtG
set_option linter.all false
set_option maxRecDepth 100000
namespace Go.Proofs.YthjppoincojfkaaGreatDoor.law10
noncomputable section
open Go Go.Abs Go.ChangeShapes Go.WideShapes Go.ChangeAt Go.RowKit
def own:ownKnob Tryz.prog.godebug=none:=by kernel_rfl
def ans{H:Type}(ds gs:List (DataW H))(hz:(DataW.weightsEach Tryz.prog (Tryz.f10.params.toList++(OpenSpec.ofChange Rows.replanSoldSpec).bare.plain.varTypes Tryz.prog) (ds++gs)).all (·<=reachBytes)=true)(h:pQ Tryz.prog 20 Tryz.f10.params.toList ds):Pure Tryz.prog aD 10 (DB Tryz.prog 20 Tryz.f10.params.toList ds) (.bool true):=by
 have at7:Tryz.f10.params.toList=[32,33,53]:=by rw[Tryz.params10]
 have hvt:(OpenSpec.ofChange Rows.replanSoldSpec).bare.plain.varTypes Tryz.prog=[]:=by kernel_rfl
 rw[hvt,zzat,at7,zzax]at hz;rw[at7]at h |-
 match ds,h with
 |[x0,x1,x2],⟨h0,h1,h2,_⟩=>
  have z0:Sz 32 x0:=fun k hk=>of_decide_eq_true (hz k (by simp only[zzae,DataW.weightsEach,zzaj];exact .inl hk));have z1:Sz 33 x1:=fun k hk=>of_decide_eq_true (hz k (by simp only[zzae,DataW.weightsEach,zzaj];exact .inr (.inl hk)));have z2:Sz 53 x2:=fun k hk=>of_decide_eq_true (hz k (by simp only[zzae,DataW.weightsEach,zzaj];exact .inr (.inr (.inl hk))));obtain⟨p,b,a⟩:=aaD (n:=14) h0 z0;obtain⟨l,lb,ll,la⟩:=LY (n:=14) h1 z1;obtain⟨o,ob,oa⟩:=RY (n:=15) h2 z2;refine Zb (law10 p l o ⟨fun e he=>(b.ens e he).2.1,fun e he=>(b.ens e he).1.2.2.2.1.2⟩ ll) ⟨?_,?_,?_,trivial⟩
  ·exact a
  ·exact la
  exact oa
def aaI(H:Type)(enc:TypeId×Value->H)(W:World)(base:Nat)(args:P1)(ds gs:List (DataW H))(before:List MemPlace)
  (iN:∀g,aA W (G0 G1) (aD g) (.pointer (some ⟨g,0,none⟩)))(dg:∀(j:Nat)t v,Tryz.f10.params[j]?=some t->args[j]?=some v->Value.okWide Tryz.prog W .any base t v)
  (hW:DataW.Whole enc Tryz.prog Tryz.f10.params.toList Rows.replanSoldSpec.vars false W args.toList ds gs before)
  (hz:(DataW.weightsEach Tryz.prog (Tryz.f10.params.toList++(OpenSpec.ofChange Rows.replanSoldSpec).bare.plain.varTypes Tryz.prog) (ds++gs)).all (·<=reachBytes)=true):
  Calls Tryz.prog 10 args W fun e W'=>∃v,e=.returned v/\Rows.replanSoldSpec.post enc Tryz.prog Tryz.f10 false true false false W args v W':=
 DC (gl:=aD) (d:=20) (bt:=4) rfl (by kernel_rfl) Tryz.underlying4 (by kernel_rfl) (by kernel_rfl) (fun ds hl=>by
   have h2:ds.length=3:=by rw[hl,Tryz.params10];rfl
   match ds,h2 with
   |[a,b,c],_=>exact⟨rfl,rfl,rfl⟩)
  iN dg hW (ans ds gs hz)
def rO(os:Os):World:=
 let w:=World.holding Tryz.prog os ⟨#[],#[],[]⟩
 {w with heap:=((((w.heap.modify 2 fun
   |.cells _ t frozen=>.cells #[.int .i64 24000,.int .i64 1001,.int .i64 24,.int .i64 0,.int .i64 24,.int .i64 1,.int .i64 24,.int .i64 0,.int .i64 25,.int .i64 1,.int .i64 25,.int .i64 0,.int .i64 30000,.int .i64 1001,.int .i64 30,.int .i64 2,.int .i64 30,.int .i64 1,.int .i64 30,.int .i64 0,.int .i64 50,.int .i64 1,.int .i64 50,.int .i64 0,.int .i64 60000,.int .i64 1001,.int .i64 60,.int .i64 4,.int .i64 60,.int .i64 1,.int .i64 60,.int .i64 0] t frozen
   |o=>o).modify 0 fun
   |.cells _ t frozen=>.cells #[.iface 372 (.pointer (some ⟨w.heap.size,0,none⟩))] t frozen
   |o=>o).modify 1 fun
   |.cells _ t frozen=>.cells #[.iface 372 (.pointer (some ⟨w.heap.size+1,0,none⟩))] t frozen
   |o=>o).push (.cells #[.string ⟨#[110,111,32,101,110,99,111,100,105,110,103]⟩] 395)).push (.cells #[.string ⟨#[110,111,32,111,114,100,101,114]⟩] 395)}
def wit:P1:=#[.agg #[.int .i64 0,.int .i64 0,.int .i64 0,.int .i64 0,.slice none 0 0,.int .i64 0,.int .i64 0,.int .i64 0,.int .i64 0,.slice none 0 0,.slice none 0 0,.slice none 0 0,.slice none 0 0],.slice none 0 0,.agg #[.int .i64 0,.int .i64 0,.int .i64 0,.int .i64 0,.int .i64 0,.int .i64 0,.int .i64 0,.int .i64 0,.int .i64 0,.int .i64 0,.int .i64 0,.int .i64 0,.slice none 0 0,.int .i64 0,.int .i64 0,.int .i64 0,.int .i64 0,.int .i64 0,.int .i64 0,.int .i64 0,.int .i64 0,.int .i64 0,.int .i64 0,.int .i64 0,.int .i64 0,.string ⟨#[]⟩]]
def aaJ(os:Os):laidMet Tryz.prog Rows.replanSoldRow.laid ((rO os).forCall (fun _ _=>0) ⟨#[],wit,[]⟩).memory:=
 laidMet_of_run' 8 (by kernel_rfl) (by kernel_rfl)
def reads(os:Os){H:Type}(enc:TypeId×Value->H):∃places,DataW.whole enc Tryz.prog ((rO os).forCall (fun _ _=>0) ⟨#[],wit,[]⟩).memory Tryz.f10.params.toList Rows.replanSoldSpec.vars false wit.toList 8=some ([.agg [.lit (.int .i64 0),.agg [.lit (.int .i64 0),.lit (.int .i64 0)],.agg [.lit (.int .i64 0),.nil],.lit (.int .i64 0),.lit (.int .i64 0),.lit (.int .i64 0),.lit (.int .i64 0),.nil,.nil,.nil,.nil],.nil,.agg [.lit (.int .i64 0),.lit (.int .i64 0),.lit (.int .i64 0),.lit (.int .i64 0),.lit (.int .i64 0),.lit (.int .i64 0),.agg [.lit (.int .i64 0),.lit (.int .i64 0),.lit (.int .i64 0),.lit (.int .i64 0),.lit (.int .i64 0),.lit (.int .i64 0),.nil],.agg [.lit (.int .i64 0),.lit (.int .i64 0),.lit (.int .i64 0),.lit (.int .i64 0),.lit (.int .i64 0),.lit (.int .i64 0),.lit (.int .i64 0),.lit (.int .i64 0)],.agg [.lit (.int .i64 0),.lit (.int .i64 0),.lit (.int .i64 0),.lit (.int .i64 0),.lit (.string [])]]],[],places):=
 ⟨[],by kernel_rfl⟩
def lifted(os:Os)(started:os.Started)(H:Type)(enc:TypeId×Value->H)(F:Stop.Interp):
  ReturnsInHanded {} Tryz.checked os 10 .any ((OpenSpec.ofChange Rows.replanSoldSpec).preRow enc Tryz.prog Tryz.f10 Rows.replanSoldRow.domain false Rows.replanSoldRow.laid) (((OpenSpec.ofChange Rows.replanSoldSpec).at F).post enc Tryz.prog Tryz.f10 false true false false):=by
 obtain⟨places,hx⟩:=reads os enc
 refine returnsInHanded_of_row (C:=Tryz.checked) (s:=OpenSpec.ofChange Rows.replanSoldSpec) own started (by kernel_rfl) Tryz.func10
  (
   witness_row_at (enc:=enc) (C:=Tryz.checked) false (rO os) wit rfl (by kernel_rfl) (by kernel_rfl) (by kernel_rfl)
   (OpenSpec.preRow_of_cond 8 hx (by kernel_rfl) (fun k hk=>by cases hk) (by kernel_rfl) (aaJ os))) ?_
 intro W base args ds gs before dg hW _ _ hz hL _ _;rw[MakeChecks.laidMetH_plain _ _ _ (by kernel_rfl)]at hL;exact aaI H enc W base args ds gs before (anh hL) dg hW hz
def said:Rows.ReplanSoldSaid:=
 OpenClaim.holds_of_cond 10 Tryz.f10 rfl rfl rfl rfl rfl rfl rfl ⟨rfl,rfl,rfl,rfl,rfl⟩ rfl rfl rfl rfl rfl (by kernel_rfl) Tryz.func10 LH
  (of_decide_eq_true (by kernel_rfl)) (by unfold Func.isWrapper;first|(rw[ac (by decide+kernel)];kernel_rfl)|(rw[ab (by decide+kernel)];exact⟨rfl,rfl⟩))
  (fun os started H enc _ F=>by rw[OpenClaim.pre_eq_preRow];exact lifted os started H enc F)
def plain(f:FuncId)(fn:Func)(hf:Tryz.pinned.checked.prog.funcNamed "onair/onairlaw15.ReplanSold"=some f)(SF:Tryz.pinned.checked.prog.funcs[f]?=some fn):
  true=Tryz.pinned.checked.prog.looks []/\∀(j:Nat)t,fn.params[j]?=some t->Tryz.pinned.checked.prog.wantsStandIn t=false:=by
 obtain rfl:f=10:=ap ((show Tryz.prog.funcNamed "onair/onairlaw15.ReplanSold"=some 10 by kernel_rfl).symm.trans hf) |>.symm;obtain rfl:fn=Tryz.f10:=(ap (Tryz.func10.symm.trans SF)).symm;refine⟨by kernel_rfl,fun j t ht=>?_⟩;rw[Tryz.params10]at ht;have hm:=zzde ht;simp only[List.mem_toArray,zzao,zzdo,or_false]at hm;obtain rfl|rfl|rfl:=hm
 ·exact(show Tryz.prog.wantsStandIn 32=false by kernel_rfl)
 ·exact(show Tryz.prog.wantsStandIn 33=false by kernel_rfl)
 exact(show Tryz.prog.wantsStandIn 53=false by kernel_rfl)
end
end Go.Proofs.YthjppoincojfkaaGreatDoor.law10
namespace Go.Proofs.YthjppoincojfkaaGreatDoor
open Go
theorem replanSold_card:Rows.ReplanSoldCardSaid:=
 Claim7.holds_tied_plain_at .later [] _ _ _ _ law10.said (fun _ h=>by cases h) law10.fWf (fun _ h=>by cases h) replanSold_row_tie rfl ⟨rfl,rfl⟩ law10.fMa rfl law10.plain law10.fGo
#print axioms replanSold_card
