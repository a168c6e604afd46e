/-
  ModelPermitted returns true for every plan, every list of orders, every region and every list of frames, and leaves its arguments as they were.
  Conditions: none beyond the given card's own (the listed variable as the program's text lays it; the form's own reach).
-/
import Derived.Test.YtnopaopphmjnmaaGreatDoorMLRgG
import Derived.Test.YtnopaopphmjnmaaGreatDoorMLMfS
import Derived.Test.YtnopaopphmjnmaaGreatDoorMLMlF
import Derived.Test.YtnopaopphmjnmaaGreatDoorMLMlG
set_option linter.all false
set_option maxRecDepth 100000
namespace Go.Proofs.YtnopaopphmjnmaaGreatDoor.law5
noncomputable section
open Go Go.Abs Go.ChangeShapes Go.WideShapes Go.ChangeAt Go.RowKit
def own:ownKnob Tryz.prog.godebug=none:=by kernel_rfl
def aue{H:Type}(ds gs:List (DataW H))(hz:(DataW.weightsEach Tryz.prog (Tryz.f5.params.toList++(OpenSpec.ofChange Rows.modelPermittedSpec).bare.plain.varTypes Tryz.prog) (ds++gs)).all (·<=reachBytes)=true)(h:o7 Tryz.prog 20 Tryz.f5.params.toList ds):Pure Tryz.prog az 5 (CT Tryz.prog 20 Tryz.f5.params.toList ds) (.bool true):=by
 have auf:Tryz.f5.params.toList=[56,23,3,59]:=by rw[Tryz.params5]
 have hvt:(OpenSpec.ofChange Rows.modelPermittedSpec).bare.plain.varTypes Tryz.prog=[]:=by kernel_rfl
 rw[hvt,zzau,auf,zzbh]at hz;rw[auf]at h |-
 match ds,h with
 |[x0,x1,x2,x3],⟨h0,h1,h2,h3,_⟩=>
  have z0:Sz 56 x0:=fun k hk=>of_decide_eq_true (hz k (by simp only[zzae,DataW.weightsEach,zzao];exact .inl hk));have z1:Sz 23 x1:=fun k hk=>of_decide_eq_true (hz k (by simp only[zzae,DataW.weightsEach,zzao];exact .inr (.inl hk)));have z2:Sz 3 x2:=fun k hk=>of_decide_eq_true (hz k (by simp only[zzae,DataW.weightsEach,zzao];exact .inr (.inr (.inl hk))));have z3:Sz 59 x3:=fun k hk=>of_decide_eq_true (hz k (by simp only[zzae,DataW.weightsEach,zzao];exact .inr (.inr (.inr (.inl hk)))));obtain⟨p,b,a⟩:=aa8 (n:=14) h0 z0;obtain⟨l,lb,ll,la⟩:=Mt (n:=14) h1 z1;obtain⟨r,r1,r2⟩:=agU (n:=19) h2;obtain⟨fs,fb,fl,fa⟩:=aa9 (n:=18) h3 z3;refine Zt (law5 p l r fs (fun x hx=>by rw[zzbd]at hx;subst hx;exact⟨fun e he=>(b.ens e he).2.1,fun e he=>(b.ens e he).1.2.2.2.1.2⟩) ll (fun f hf=>(fb f hf).2) fl) ⟨?_,?_,?_,?_,trivial⟩
  ·exact a
  ·exact la
  ·rw[r2];exact Wk.refl _
  exact fa
def aba(H:Type)(enc:TypeId×Value->H)(W:World)(base:Nat)(args:Array Value)(ds gs:List (DataW H))(before:List MemPlace)
  (lM:∀g,aB W (G0 Fx) (az g) (.pointer (some ⟨g,0,none⟩)))(cU:∀(j:Nat)t v,Tryz.f5.params[j]?=some t->args[j]?=some v->Value.okWide Tryz.prog W .any base t v)
  (hW:DataW.Whole enc Tryz.prog Tryz.f5.params.toList Rows.modelPermittedSpec.vars false W args.toList ds gs before)
  (hz:(DataW.weightsEach Tryz.prog (Tryz.f5.params.toList++(OpenSpec.ofChange Rows.modelPermittedSpec).bare.plain.varTypes Tryz.prog) (ds++gs)).all (·<=reachBytes)=true):
  Calls Tryz.prog 5 args W fun e W'=>∃v,e=.returned v/\Rows.modelPermittedSpec.post enc Tryz.prog Tryz.f5 false true false false W args v W':=
 CU (gl:=az) (d:=20) (bt:=4) rfl (by kernel_rfl) Tryz.underlying4 (by kernel_rfl) (by kernel_rfl) (fun ds hl=>by
   have h2:ds.length=4:=by rw[hl,Tryz.params5];rfl
   match ds,h2 with
   |[a,b,c,d],_=>exact⟨rfl,rfl,rfl⟩)
  lM cU hW (aue ds gs hz)
def rR(os:Os):World:=
 {World.holding Tryz.prog os ⟨#[],#[],[]⟩with heap:=(World.holding Tryz.prog os ⟨#[],#[],[]⟩).heap.modify 0 fun
   |.cells _ t frozen=>.cells #[.int .i64 24000,.int .i64 1001,.int .i64 24,.int .i64 0,.int .i64 24,.int .i64 1,.int .i64 24,.int .i64 0,.int .i64 25,.int .i64 1,.int .i64 25,.int .i64 0,.int .i64 30000,.int .i64 1001,.int .i64 30,.int .i64 2,.int .i64 30,.int .i64 1,.int .i64 30,.int .i64 0,.int .i64 50,.int .i64 1,.int .i64 50,.int .i64 0,.int .i64 60000,.int .i64 1001,.int .i64 60,.int .i64 4,.int .i64 60,.int .i64 1,.int .i64 60,.int .i64 0] t frozen
   |o=>o}
def wit:Array Value:=#[.agg #[.int .i64 0,.int .i64 0,.int .i64 0,.int .i64 0,.slice none 0 0,.int .i64 0,.int .i64 0,.int .i64 0,.int .i64 0,.slice none 0 0,.slice none 0 0,.slice none 0 0,.slice none 0 0],.slice none 0 0,.int .i64 0,.slice none 0 0]
def abb(os:Os):laidMet Tryz.prog Rows.modelPermittedRow.laid ((rR os).forCall (fun _ _=>0) ⟨#[],wit,[]⟩).memory:=
 laidMet_of_run' 8 (by kernel_rfl) (by kernel_rfl)
def reads(os:Os){H:Type}(enc:TypeId×Value->H):∃places,DataW.whole enc Tryz.prog ((rR os).forCall (fun _ _=>0) ⟨#[],wit,[]⟩).memory Tryz.f5.params.toList Rows.modelPermittedSpec.vars false wit.toList 8=some ([.agg [.lit (.int .i64 0),.agg [.lit (.int .i64 0),.lit (.int .i64 0)],.agg [.lit (.int .i64 0),.nil],.lit (.int .i64 0),.lit (.int .i64 0),.lit (.int .i64 0),.lit (.int .i64 0),.nil,.nil,.nil,.nil],.nil,.lit (.int .i64 0),.nil],[],places):=
 ⟨[],by kernel_rfl⟩
def lifted(os:Os)(started:os.Started)(H:Type)(enc:TypeId×Value->H)(F:Stop.Interp):
  ReturnsInHanded {} Tryz.checked os 5 .any ((OpenSpec.ofChange Rows.modelPermittedSpec).preRow enc Tryz.prog Tryz.f5 Rows.modelPermittedRow.domain false Rows.modelPermittedRow.laid) (((OpenSpec.ofChange Rows.modelPermittedSpec).at F).post enc Tryz.prog Tryz.f5 false true false false):=by
 obtain⟨places,hx⟩:=reads os enc
 refine returnsInHanded_of_row (C:=Tryz.checked) (s:=OpenSpec.ofChange Rows.modelPermittedSpec) own started (by kernel_rfl) Tryz.func5
  (
   witness_row_at (enc:=enc) (C:=Tryz.checked) false (rR os) wit rfl (by kernel_rfl) (by kernel_rfl) (by kernel_rfl)
   (OpenSpec.preRow_of_cond 8 hx (by kernel_rfl) (fun k hk=>by cases hk) (by kernel_rfl) (abb os))) ?_
 intro W base args ds gs before cU hW _ _ hz hL _ _;rw[MakeChecks.laidMetH_plain _ _ _ (by kernel_rfl)]at hL;exact aba H enc W base args ds gs before (anP hL) cU hW hz
def said:Rows.ModelPermittedSaid:=
 OpenClaim.holds_of_cond 5 Tryz.f5 rfl rfl rfl rfl rfl rfl rfl ⟨rfl,rfl,rfl,rfl,rfl⟩ rfl rfl rfl rfl rfl (by kernel_rfl) Tryz.func5 LW
  (of_decide_eq_true (by kernel_rfl)) (by unfold Func.isWrapper;first|(rw[if_pos (by decide+kernel)];kernel_rfl)|(rw[if_neg (by decide+kernel)];exact⟨rfl,rfl⟩))
  (fun os started H enc _ F=>by rw[OpenClaim.pre_eq_preRow];exact lifted os started H enc F)
def plain(f:FuncId)(fn:Func)(hf:Tryz.pinned.checked.prog.funcNamed "onair/onairlaw29.ModelPermitted"=some f)(IE:Tryz.pinned.checked.prog.funcs[f]?=some fn):
  true=Tryz.pinned.checked.prog.looks []/\∀(j:Nat)t,fn.params[j]?=some t->Tryz.pinned.checked.prog.wantsStandIn t=false:=by
 obtain rfl:f=5:=Option.some.inj ((show Tryz.prog.funcNamed "onair/onairlaw29.ModelPermitted"=some 5 by kernel_rfl).symm.trans hf) |>.symm;obtain rfl:fn=Tryz.f5:=(Option.some.inj (Tryz.func5.symm.trans IE)).symm;refine⟨by kernel_rfl,fun j t ht=>?_⟩;rw[Tryz.params5]at ht;have hm:=zzda ht;simp only[List.mem_toArray,zzat,zzee,or_false]at hm;obtain rfl|rfl|rfl|rfl:=hm
 ·exact(show Tryz.prog.wantsStandIn 56=false by kernel_rfl)
 ·exact(show Tryz.prog.wantsStandIn 23=false by kernel_rfl)
 ·exact(show Tryz.prog.wantsStandIn 3=false by kernel_rfl)
 exact(show Tryz.prog.wantsStandIn 59=false by kernel_rfl)
end
end Go.Proofs.YtnopaopphmjnmaaGreatDoor.law5
namespace Go.Proofs.YtnopaopphmjnmaaGreatDoor
open Go
theorem modelPermitted_card:Rows.ModelPermittedCardSaid:=
 Claim7.holds_tied_plain_at .later [] _ _ _ _ law5.said (fun _ h=>by cases h) law5.fWf (fun _ h=>by cases h) modelPermitted_row_tie rfl ⟨rfl,rfl⟩ law5.fMa rfl law5.plain law5.fGo
#print axioms modelPermitted_card
end Go.Proofs.YtnopaopphmjnmaaGreatDoor
