/-
  ReplanOnce returns true for every plan and every list of orders, and leaves its arguments as they were.
  Conditions: none beyond the given card's own (the listed variables as the program's text lays them; the form's own reach).
-/
import Derived.Test.YthjppoincojfkaaGreatDoorRSRqS
import Derived.Test.YthjppoincojfkaaGreatDoorRSRsF
import Derived.Test.YthjppoincojfkaaGreatDoorRSRsG
set_option linter.all false
set_option maxRecDepth 100000
namespace Go.Proofs.YthjppoincojfkaaGreatDoor.law6
noncomputable section
open Go Go.Abs Go.ChangeShapes Go.WideShapes Go.ChangeAt Go.RowKit
def own:ownKnob Tryz.prog.godebug=none:=by kernel_rfl
def atU{H:Type}(ds gs:List (DataW H))(hz:(DataW.weightsEach Tryz.prog (Tryz.f6.params.toList++(OpenSpec.ofChange Rows.replanOnceSpec).bare.plain.varTypes Tryz.prog) (ds++gs)).all (·<=reachBytes)=true)(h:pZ Tryz.prog 20 Tryz.f6.params.toList ds):Pure Tryz.prog aD 6 (DD Tryz.prog 20 Tryz.f6.params.toList ds) (.bool true):=by
 have atV:Tryz.f6.params.toList=[32,33]:=by rw[Tryz.params6]
 have hvt:(OpenSpec.ofChange Rows.replanOnceSpec).bare.plain.varTypes Tryz.prog=[]:=by kernel_rfl
 rw[hvt,zzar,atV,zzay]at hz;rw[atV]at h |-
 match ds,h with
 |[x0,x1],⟨h0,h1,_⟩=>
  have z0:Sz 32 x0:=fun k hk=>of_decide_eq_true (hz k (by simp only[zzae,DataW.weightsEach,zzao];exact .inl hk));have z1:Sz 33 x1:=fun k hk=>of_decide_eq_true (hz k (by simp only[zzae,DataW.weightsEach,zzao];exact .inr (.inl hk)));obtain⟨p,b,a⟩:=aav (n:=14) h0 z0;obtain⟨l,lb,ll,la⟩:=L3 (n:=14) h1 z1;refine Xz (law6 p l ⟨fun e he=>(b.ens e he).2.1,fun e he=>(b.ens e he).1.2.2.2.1.2⟩ ll) ⟨?_,?_,trivial⟩
  ·exact a
  exact la
def aaC(H:Type)(enc:TypeId×Value->H)(W:World)(base:Nat)(args:P1)(ds gs:List (DataW H))(before:List MemPlace)
  (lG:∀g,aA W (G0 GW) (aD g) (.pointer (some ⟨g,0,none⟩)))(cB:∀(j:Nat)t v,Tryz.f6.params[j]?=some t->args[j]?=some v->Value.okWide Tryz.prog W .any base t v)
  (hW:DataW.Whole enc Tryz.prog Tryz.f6.params.toList Rows.replanOnceSpec.vars false W args.toList ds gs before)
  (hz:(DataW.weightsEach Tryz.prog (Tryz.f6.params.toList++(OpenSpec.ofChange Rows.replanOnceSpec).bare.plain.varTypes Tryz.prog) (ds++gs)).all (·<=reachBytes)=true):
  Calls Tryz.prog 6 args W fun e W'=>∃v,e=.returned v/\Rows.replanOnceSpec.post enc Tryz.prog Tryz.f6 false true false false W args v W':=
 DE (gl:=aD) (d:=20) (bt:=4) rfl (by kernel_rfl) Tryz.underlying4 (by kernel_rfl) (by kernel_rfl) (fun ds hl=>by
   have h2:ds.length=2:=by rw[hl,Tryz.params6];rfl
   match ds,h2 with
   |[a,b],_=>exact⟨rfl,rfl,rfl⟩)
  lG cB hW (atU ds gs hz)
def rT(os:Os):World:=
 let w:=World.holding Tryz.prog os ⟨#[],#[],[]⟩
 {w with heap:=((((w.heap.modify 2 fun
   |.cells _ t frozen=>.cells #[.int .i64 24000,.int .i64 1001,.int .i64 24,.int .i64 0,.int .i64 24,.int .i64 1,.int .i64 24,.int .i64 0,.int .i64 25,.int .i64 1,.int .i64 25,.int .i64 0,.int .i64 30000,.int .i64 1001,.int .i64 30,.int .i64 2,.int .i64 30,.int .i64 1,.int .i64 30,.int .i64 0,.int .i64 50,.int .i64 1,.int .i64 50,.int .i64 0,.int .i64 60000,.int .i64 1001,.int .i64 60,.int .i64 4,.int .i64 60,.int .i64 1,.int .i64 60,.int .i64 0] t frozen
   |o=>o).modify 0 fun
   |.cells _ t frozen=>.cells #[.iface 372 (.pointer (some ⟨w.heap.size,0,none⟩))] t frozen
   |o=>o).modify 1 fun
   |.cells _ t frozen=>.cells #[.iface 372 (.pointer (some ⟨w.heap.size+1,0,none⟩))] t frozen
   |o=>o).push (.cells #[.string ⟨#[110,111,32,101,110,99,111,100,105,110,103]⟩] 395)).push (.cells #[.string ⟨#[110,111,32,111,114,100,101,114]⟩] 395)}
def wit:P1:=#[.agg #[.int .i64 0,.int .i64 0,.int .i64 0,.int .i64 0,.slice none 0 0,.int .i64 0,.int .i64 0,.int .i64 0,.int .i64 0,.slice none 0 0,.slice none 0 0,.slice none 0 0,.slice none 0 0],.slice none 0 0]
def aaD(os:Os):laidMet Tryz.prog Rows.replanOnceRow.laid ((rT os).forCall (fun _ _=>0) ⟨#[],wit,[]⟩).memory:=
 laidMet_of_run' 8 (by kernel_rfl) (by kernel_rfl)
def reads(os:Os){H:Type}(enc:TypeId×Value->H):∃places,DataW.whole enc Tryz.prog ((rT os).forCall (fun _ _=>0) ⟨#[],wit,[]⟩).memory Tryz.f6.params.toList Rows.replanOnceSpec.vars false wit.toList 8=some ([.agg [.lit (.int .i64 0),.agg [.lit (.int .i64 0),.lit (.int .i64 0)],.agg [.lit (.int .i64 0),.nil],.lit (.int .i64 0),.lit (.int .i64 0),.lit (.int .i64 0),.lit (.int .i64 0),.nil,.nil,.nil,.nil],.nil],[],places):=
 ⟨[],by kernel_rfl⟩
def lifted(os:Os)(started:os.Started)(H:Type)(enc:TypeId×Value->H)(F:Stop.Interp):
  ReturnsInHanded {} Tryz.checked os 6 .any ((OpenSpec.ofChange Rows.replanOnceSpec).preRow enc Tryz.prog Tryz.f6 Rows.replanOnceRow.domain false Rows.replanOnceRow.laid) (((OpenSpec.ofChange Rows.replanOnceSpec).at F).post enc Tryz.prog Tryz.f6 false true false false):=by
 obtain⟨places,hx⟩:=reads os enc
 refine returnsInHanded_of_row (C:=Tryz.checked) (s:=OpenSpec.ofChange Rows.replanOnceSpec) own started (by kernel_rfl) Tryz.func6
  (
   witness_row_at (enc:=enc) (C:=Tryz.checked) false (rT os) wit rfl (by kernel_rfl) (by kernel_rfl) (by kernel_rfl)
   (OpenSpec.preRow_of_cond 8 hx (by kernel_rfl) (fun k hk=>by cases hk) (by kernel_rfl) (aaD os))) ?_
 intro W base args ds gs before cB hW _ _ hz hL _ _;rw[MakeChecks.laidMetH_plain _ _ _ (by kernel_rfl)]at hL;exact aaC H enc W base args ds gs before (am0 hL) cB hW hz
def said:Rows.ReplanOnceSaid:=
 OpenClaim.holds_of_cond 6 Tryz.f6 rfl rfl rfl rfl rfl rfl rfl ⟨rfl,rfl,rfl,rfl,rfl⟩ rfl rfl rfl rfl rfl (by kernel_rfl) Tryz.func6 LK
  (of_decide_eq_true (by kernel_rfl)) (by unfold Func.isWrapper;first|(rw[if_pos (by decide+kernel)];kernel_rfl)|(rw[if_neg (by decide+kernel)];exact⟨rfl,rfl⟩))
  (fun os started H enc _ F=>by rw[OpenClaim.pre_eq_preRow];exact lifted os started H enc F)
def plain(f:FuncId)(fn:Func)(hf:Tryz.pinned.checked.prog.funcNamed "onair/onairlaw15.ReplanOnce"=some f)(SE:Tryz.pinned.checked.prog.funcs[f]?=some fn):
  true=Tryz.pinned.checked.prog.looks []/\∀(j:Nat)t,fn.params[j]?=some t->Tryz.pinned.checked.prog.wantsStandIn t=false:=by
 obtain rfl:f=6:=Option.some.inj ((show Tryz.prog.funcNamed "onair/onairlaw15.ReplanOnce"=some 6 by kernel_rfl).symm.trans hf) |>.symm;obtain rfl:fn=Tryz.f6:=(Option.some.inj (Tryz.func6.symm.trans SE)).symm;refine⟨by kernel_rfl,fun j t ht=>?_⟩;rw[Tryz.params6]at ht;have hm:=zzdd ht;simp only[List.mem_toArray,zzam,zzdp,or_false]at hm;obtain rfl|rfl:=hm
 ·exact(show Tryz.prog.wantsStandIn 32=false by kernel_rfl)
 exact(show Tryz.prog.wantsStandIn 33=false by kernel_rfl)
end
end Go.Proofs.YthjppoincojfkaaGreatDoor.law6
namespace Go.Proofs.YthjppoincojfkaaGreatDoor
open Go
theorem replanOnce_card:Rows.ReplanOnceCardSaid:=
 Claim7.holds_tied_plain_at .later [] _ _ _ _ law6.said (fun _ h=>by cases h) law6.fWf (fun _ h=>by cases h) replanOnce_row_tie rfl ⟨rfl,rfl⟩ law6.fMa rfl law6.plain law6.fGo
#print axioms replanOnce_card
