/-
  ReplanCues returns true for every plan, every list of orders and every two orders, and leaves its arguments as they were.
  Conditions: none beyond the given card's own (the listed variables as the program's text lays them; the form's own reach).
-/
import Derived.Test.YthjppoincojfkaaGreatDoorRARgG
import Derived.Test.YthjppoincojfkaaGreatDoorRARqE
import Derived.Test.YthjppoincojfkaaGreatDoorRARuF
import Derived.Test.YthjppoincojfkaaGreatDoorRARuG
set_option linter.all false
set_option maxRecDepth 100000
namespace Go.Proofs.YthjppoincojfkaaGreatDoor.law8
noncomputable section
open Go Go.Abs Go.ChangeShapes Go.WideShapes Go.ChangeAt Go.RowKit
def own:ownKnob Tryz.prog.godebug=none:=by kernel_rfl
def atJ{H:Type}(ds gs:List (DataW H))(hz:(DataW.weightsEach Tryz.prog (Tryz.f8.params.toList++(OpenSpec.ofChange Rows.replanCuesSpec).bare.plain.varTypes Tryz.prog) (ds++gs)).all (·<=reachBytes)=true)(h:Qby Tryz.prog 20 Tryz.f8.params.toList ds):Pure Tryz.prog aD 8 (ny Tryz.prog 20 Tryz.f8.params.toList ds) (.bool true):=by
 have yM:Tryz.f8.params.toList=[32,33,53,53]:=by rw[Tryz.params8]
 have XD:(OpenSpec.ofChange Rows.replanCuesSpec).bare.plain.varTypes Tryz.prog=[]:=by kernel_rfl
 rw[XD,zzar,yM,zzas]at hz;rw[yM]at h |-
 match ds,h with
 |[x0,x1,x2,x3],⟨h0,h1,h2,h3,_⟩=>
  have z0:Sz 32 x0:=fun k hk=>of_decide_eq_true (hz k (by simp only[zzad,DataW.weightsEach,zzam];exact .inl hk));have z1:Sz 33 x1:=fun k hk=>of_decide_eq_true (hz k (by simp only[zzad,DataW.weightsEach,zzam];exact .inr (.inl hk)));have z2:Sz 53 x2:=fun k hk=>of_decide_eq_true (hz k (by simp only[zzad,DataW.weightsEach,zzam];exact .inr (.inr (.inl hk))));have z3:Sz 53 x3:=fun k hk=>of_decide_eq_true (hz k (by simp only[zzad,DataW.weightsEach,zzam];exact .inr (.inr (.inr (.inl hk)))));obtain⟨p,b,a⟩:=qg (n:=14) h0 z0;obtain⟨l,lb,ll,la⟩:=Qes (n:=14) h1 z1;obtain⟨c,cb,ca⟩:=BF (n:=15) h2 z2;obtain⟨o,ob,oa⟩:=BF (n:=15) h3 z3;refine Xp (law8 p l c o ⟨fun e he=>(b.ens e he).2.1,fun e he=>(b.ens e he).1.2.2.2.1.2⟩ ll) ⟨?_,?_,?_,?_,trivial⟩
  ·exact a
  ·exact la
  ·exact ca
  exact oa
def eG(H:Type)(enc:TypeId×Value->H)(W:World)(base:Nat)(args:P1)(ds gs:List (DataW H))(before:List MemPlace)
  (gr:∀g,aA W (G0 AW) (aD g) (.pointer (some ⟨g,0,none⟩)))(bM:∀(j:Nat)t v,Tryz.f8.params[j]?=some t->args[j]?=some v->Value.okWide Tryz.prog W .any base t v)
  (hW:DataW.Whole enc Tryz.prog Tryz.f8.params.toList Rows.replanCuesSpec.vars false W args.toList ds gs before)
  (hz:(DataW.weightsEach Tryz.prog (Tryz.f8.params.toList++(OpenSpec.ofChange Rows.replanCuesSpec).bare.plain.varTypes Tryz.prog) (ds++gs)).all (·<=reachBytes)=true):
  Calls Tryz.prog 8 args W fun e W'=>∃v,e=.returned v/\Rows.replanCuesSpec.post enc Tryz.prog Tryz.f8 false true false false W args v W':=
 Qaz (gl:=aD) (d:=20) (bt:=4) rfl (by kernel_rfl) Tryz.underlying4 (by kernel_rfl) (by kernel_rfl) (fun ds hl=>by
   have h2:ds.length=4:=by rw[hl,Tryz.params8];rfl
   match ds,h2 with
   |[a,b,c,d],_=>exact⟨rfl,rfl,rfl⟩)
  gr bM hW (atJ ds gs hz)
def Zu(os:Os):World:=
 let w:=World.holding Tryz.prog os ⟨#[],#[],[]⟩
 {w with heap:=((((w.heap.modify 2 fun
   |.cells _ t frozen=>.cells #[.int .i64 24000,.int .i64 1001,.int .i64 24,.int .i64 0,.int .i64 24,.int .i64 1,.int .i64 24,.int .i64 0,.int .i64 25,.int .i64 1,.int .i64 25,.int .i64 0,.int .i64 30000,.int .i64 1001,.int .i64 30,.int .i64 2,.int .i64 30,.int .i64 1,.int .i64 30,.int .i64 0,.int .i64 50,.int .i64 1,.int .i64 50,.int .i64 0,.int .i64 60000,.int .i64 1001,.int .i64 60,.int .i64 4,.int .i64 60,.int .i64 1,.int .i64 60,.int .i64 0] t frozen
   |o=>o).modify 0 fun
   |.cells _ t frozen=>.cells #[.iface 372 (.pointer (some ⟨w.heap.size,0,none⟩))] t frozen
   |o=>o).modify 1 fun
   |.cells _ t frozen=>.cells #[.iface 372 (.pointer (some ⟨w.heap.size+1,0,none⟩))] t frozen
   |o=>o).push (.cells #[.string ⟨#[110,111,32,101,110,99,111,100,105,110,103]⟩] 395)).push (.cells #[.string ⟨#[110,111,32,111,114,100,101,114]⟩] 395)}
def DT:P1:=#[.agg #[.int .i64 0,.int .i64 0,.int .i64 0,.int .i64 0,.slice none 0 0,.int .i64 0,.int .i64 0,.int .i64 0,.int .i64 0,.slice none 0 0,.slice none 0 0,.slice none 0 0,.slice none 0 0],.slice none 0 0,.agg #[.int .i64 0,.int .i64 0,.int .i64 0,.int .i64 0,.int .i64 0,.int .i64 0,.int .i64 0,.int .i64 0,.int .i64 0,.int .i64 0,.int .i64 0,.int .i64 0,.slice none 0 0,.int .i64 0,.int .i64 0,.int .i64 0,.int .i64 0,.int .i64 0,.int .i64 0,.int .i64 0,.int .i64 0,.int .i64 0,.int .i64 0,.int .i64 0,.int .i64 0,.string ⟨#[]⟩],.agg #[.int .i64 0,.int .i64 0,.int .i64 0,.int .i64 0,.int .i64 0,.int .i64 0,.int .i64 0,.int .i64 0,.int .i64 0,.int .i64 0,.int .i64 0,.int .i64 0,.slice none 0 0,.int .i64 0,.int .i64 0,.int .i64 0,.int .i64 0,.int .i64 0,.int .i64 0,.int .i64 0,.int .i64 0,.int .i64 0,.int .i64 0,.int .i64 0,.int .i64 0,.string ⟨#[]⟩]]
def Qbo(os:Os):laidMet Tryz.prog Rows.replanCuesRow.laid ((Zu os).forCall (fun _ _=>0) ⟨#[],DT,[]⟩).memory:=
 laidMet_of_run' 8 (by kernel_rfl) (by kernel_rfl)
def reads(os:Os){H:Type}(enc:TypeId×Value->H):∃places,DataW.whole enc Tryz.prog ((Zu os).forCall (fun _ _=>0) ⟨#[],DT,[]⟩).memory Tryz.f8.params.toList Rows.replanCuesSpec.vars false DT.toList 8=some ([.agg [.lit (.int .i64 0),.agg [.lit (.int .i64 0),.lit (.int .i64 0)],.agg [.lit (.int .i64 0),.nil],.lit (.int .i64 0),.lit (.int .i64 0),.lit (.int .i64 0),.lit (.int .i64 0),.nil,.nil,.nil,.nil],.nil,.agg [.lit (.int .i64 0),.lit (.int .i64 0),.lit (.int .i64 0),.lit (.int .i64 0),.lit (.int .i64 0),.lit (.int .i64 0),.agg [.lit (.int .i64 0),.lit (.int .i64 0),.lit (.int .i64 0),.lit (.int .i64 0),.lit (.int .i64 0),.lit (.int .i64 0),.nil],.agg [.lit (.int .i64 0),.lit (.int .i64 0),.lit (.int .i64 0),.lit (.int .i64 0),.lit (.int .i64 0),.lit (.int .i64 0),.lit (.int .i64 0),.lit (.int .i64 0)],.agg [.lit (.int .i64 0),.lit (.int .i64 0),.lit (.int .i64 0),.lit (.int .i64 0),.lit (.string [])]],.agg [.lit (.int .i64 0),.lit (.int .i64 0),.lit (.int .i64 0),.lit (.int .i64 0),.lit (.int .i64 0),.lit (.int .i64 0),.agg [.lit (.int .i64 0),.lit (.int .i64 0),.lit (.int .i64 0),.lit (.int .i64 0),.lit (.int .i64 0),.lit (.int .i64 0),.nil],.agg [.lit (.int .i64 0),.lit (.int .i64 0),.lit (.int .i64 0),.lit (.int .i64 0),.lit (.int .i64 0),.lit (.int .i64 0),.lit (.int .i64 0),.lit (.int .i64 0)],.agg [.lit (.int .i64 0),.lit (.int .i64 0),.lit (.int .i64 0),.lit (.int .i64 0),.lit (.string [])]]],[],places):=
 ⟨[],by kernel_rfl⟩
def lifted(os:Os)(started:os.Started)(H:Type)(enc:TypeId×Value->H)(F:Stop.Interp):
  ReturnsInHanded {} Tryz.checked os 8 .any ((OpenSpec.ofChange Rows.replanCuesSpec).preRow enc Tryz.prog Tryz.f8 Rows.replanCuesRow.domain false Rows.replanCuesRow.laid) (((OpenSpec.ofChange Rows.replanCuesSpec).at F).post enc Tryz.prog Tryz.f8 false true false false):=by
 obtain⟨places,hx⟩:=reads os enc
 refine returnsInHanded_of_row (C:=Tryz.checked) (s:=OpenSpec.ofChange Rows.replanCuesSpec) own started (by kernel_rfl) Tryz.func8
  (
   witness_row_at (enc:=enc) (C:=Tryz.checked) false (Zu os) DT rfl (by kernel_rfl) (by kernel_rfl) (by kernel_rfl)
   (OpenSpec.preRow_of_cond 8 hx (by kernel_rfl) (fun k hk=>by cases hk) (by kernel_rfl) (Qbo os))) ?_
 intro W base args ds gs before bM hW _ _ hz hL _ _;rw[MakeChecks.laidMetH_plain _ _ _ (by kernel_rfl)]at hL;exact eG H enc W base args ds gs before (DU hL) bM hW hz
def said:Rows.ReplanCuesSaid:=
 OpenClaim.holds_of_cond 8 Tryz.f8 rfl rfl rfl rfl rfl rfl rfl ⟨rfl,rfl,rfl,rfl,rfl⟩ rfl rfl rfl rfl rfl (by kernel_rfl) Tryz.func8 gI
  (of_decide_eq_true (by kernel_rfl)) (by unfold Func.isWrapper;first|(rw[if_pos (by decide+kernel)];kernel_rfl)|(rw[if_neg (by decide+kernel)];exact⟨rfl,rfl⟩))
  (fun os started H enc _ F=>by rw[OpenClaim.pre_eq_preRow];exact lifted os started H enc F)
def plain(f:FuncId)(fn:Func)(hf:Tryz.pinned.checked.prog.funcNamed "onair/onairlaw15.ReplanCues"=some f)(Eb:Tryz.pinned.checked.prog.funcs[f]?=some fn):
  true=Tryz.pinned.checked.prog.looks []/\∀(j:Nat)t,fn.params[j]?=some t->Tryz.pinned.checked.prog.wantsStandIn t=false:=by
 obtain rfl:f=8:=Option.some.inj ((show Tryz.prog.funcNamed "onair/onairlaw15.ReplanCues"=some 8 by kernel_rfl).symm.trans hf) |>.symm;obtain rfl:fn=Tryz.f8:=(Option.some.inj (Tryz.func8.symm.trans Eb)).symm;refine⟨by kernel_rfl,fun j t ht=>?_⟩;rw[Tryz.params8]at ht;have hm:=zzck ht;simp only[zzfi,zzao,zzd,or_false]at hm;obtain rfl|rfl|rfl|rfl:=hm
 ·exact(show Tryz.prog.wantsStandIn 32=false by kernel_rfl)
 ·exact(show Tryz.prog.wantsStandIn 33=false by kernel_rfl)
 ·exact(show Tryz.prog.wantsStandIn 53=false by kernel_rfl)
 exact(show Tryz.prog.wantsStandIn 53=false by kernel_rfl)
end
end Go.Proofs.YthjppoincojfkaaGreatDoor.law8
namespace Go.Proofs.YthjppoincojfkaaGreatDoor
open Go
theorem replanCues_card:Rows.ReplanCuesCardSaid:=
 Claim7.holds_tied_plain_at .later [] _ _ _ _ law8.said (fun _ h=>by cases h) law8.fWf (fun _ h=>by cases h) replanCues_row_tie rfl ⟨rfl,rfl⟩ law8.fMa rfl law8.plain law8.fGo
#print axioms replanCues_card
