/-
  ModelAllows returns true for every list of plans, every list of orders, every channel, region and frame, and every picture, and leaves its arguments as they were.
  Conditions: none beyond the given card's own (the listed variable as the program's text lays it; the form's own reach).
-/
import Derived.Test.YtnopaopphmjnmaaGreatDoorMBRgG
import Derived.Test.YtnopaopphmjnmaaGreatDoorMBMfB
import Derived.Test.YtnopaopphmjnmaaGreatDoorMBMgF
import Derived.Test.YtnopaopphmjnmaaGreatDoorMBMgG
set_option linter.all false
set_option maxRecDepth 100000
namespace Go.Proofs.YtnopaopphmjnmaaGreatDoor.law4
noncomputable section
open Go Go.Abs Go.ChangeShapes Go.WideShapes Go.ChangeAt Go.RowKit
def own:ownKnob Tryz.prog.godebug=none:=by kernel_rfl
def atu{H:Type}(ds gs:List (DataW H))(hz:(DataW.weightsEach Tryz.prog (Tryz.f4.params.toList++(OpenSpec.ofChange Rows.modelAllowsSpec).bare.plain.varTypes Tryz.prog) (ds++gs)).all (·<=reachBytes)=true)(h:jg Tryz.prog 20 Tryz.f4.params.toList ds):Pure Tryz.prog az 4 (vV Tryz.prog 20 Tryz.f4.params.toList ds) (.bool true):=by
 have aaP:Tryz.f4.params.toList=[22,23,3,3,3,70]:=by rw[Tryz.params4]
 have hvt:(OpenSpec.ofChange Rows.modelAllowsSpec).bare.plain.varTypes Tryz.prog=[]:=by kernel_rfl
 rw[hvt,zzat,aaP,zzbg]at hz;rw[aaP]at h |-
 match ds,h with
 |[x0,x1,x2,x3,x4,x5],⟨h0,h1,h2,h3,h4,h5,_⟩=>
  have z0:Sz 22 x0:=fun k hk=>of_decide_eq_true (hz k (by simp only[zzae,DataW.weightsEach,zzal];exact .inl hk));have z1:Sz 23 x1:=fun k hk=>of_decide_eq_true (hz k (by simp only[zzae,DataW.weightsEach,zzal];exact .inr (.inl hk)));have z2:Sz 3 x2:=fun k hk=>of_decide_eq_true (hz k (by simp only[zzae,DataW.weightsEach,zzal];exact .inr (.inr (.inl hk))));have z3:Sz 3 x3:=fun k hk=>of_decide_eq_true (hz k (by simp only[zzae,DataW.weightsEach,zzal];exact .inr (.inr (.inr (.inl hk)))));have z4:Sz 3 x4:=fun k hk=>of_decide_eq_true (hz k (by simp only[zzae,DataW.weightsEach,zzal];exact .inr (.inr (.inr (.inr (.inl hk))))));have z5:Sz 70 x5:=fun k hk=>of_decide_eq_true (hz k (by simp only[zzae,DataW.weightsEach,zzal];exact .inr (.inr (.inr (.inr (.inr (.inl hk)))))));obtain⟨ps,b,_,a⟩:=St (n:=13) h0 z0;obtain⟨l,lb,ll,la⟩:=yp (n:=14) h1 z1;obtain⟨c,c1,c2⟩:=pV (n:=19) h2;obtain⟨r,r1,r2⟩:=pV (n:=19) h3;obtain⟨f,f1,f2⟩:=pV (n:=19) h4;obtain⟨s,s1⟩:=Su (n:=18) h5;refine Zk (law4 ps l c r f s (fun p hp=>⟨fun e he=>((b p hp).ens e he).2.1,fun e he=>((b p hp).ens e he).1.2.2.2.1.2⟩) ll f1.2) ⟨?_,?_,?_,?_,?_,?_,trivial⟩
  ·exact a
  ·exact la
  ·rw[c2];exact Wk.refl _
  ·rw[r2];exact Wk.refl _
  ·rw[f2];exact Wk.refl _
  rw[s1];exact Wk.refl _
def yq(H:Type)(enc:TypeId×Value->H)(W:World)(base:Nat)(args:Array Value)(ds gs:List (DataW H))(before:List MemPlace)
  (iQ:∀g,aB W (G0 DR) (az g) (.pointer (some ⟨g,0,none⟩)))(cG:∀(j:Nat)t v,Tryz.f4.params[j]?=some t->args[j]?=some v->Value.okWide Tryz.prog W .any base t v)
  (hW:DataW.Whole enc Tryz.prog Tryz.f4.params.toList Rows.modelAllowsSpec.vars false W args.toList ds gs before)
  (hz:(DataW.weightsEach Tryz.prog (Tryz.f4.params.toList++(OpenSpec.ofChange Rows.modelAllowsSpec).bare.plain.varTypes Tryz.prog) (ds++gs)).all (·<=reachBytes)=true):
  Calls Tryz.prog 4 args W fun e W'=>∃v,e=.returned v/\Rows.modelAllowsSpec.post enc Tryz.prog Tryz.f4 false true false false W args v W':=
 oH (gl:=az) (d:=20) (bt:=4) rfl (by kernel_rfl) Tryz.underlying4 (by kernel_rfl) (by kernel_rfl) (fun ds hl=>by
   have h2:ds.length=6:=by rw[hl,Tryz.params4];rfl
   match ds,h2 with
   |[a,b,c,d,e,f],_=>exact⟨rfl,rfl,rfl⟩)
  iQ cG hW (atu ds gs hz)
def Kt(os:Os):World:=
 {World.holding Tryz.prog os ⟨#[],#[],[]⟩with heap:=(World.holding Tryz.prog os ⟨#[],#[],[]⟩).heap.modify 0 fun
   |.cells _ t frozen=>.cells #[.int .i64 24000,.int .i64 1001,.int .i64 24,.int .i64 0,.int .i64 24,.int .i64 1,.int .i64 24,.int .i64 0,.int .i64 25,.int .i64 1,.int .i64 25,.int .i64 0,.int .i64 30000,.int .i64 1001,.int .i64 30,.int .i64 2,.int .i64 30,.int .i64 1,.int .i64 30,.int .i64 0,.int .i64 50,.int .i64 1,.int .i64 50,.int .i64 0,.int .i64 60000,.int .i64 1001,.int .i64 60,.int .i64 4,.int .i64 60,.int .i64 1,.int .i64 60,.int .i64 0] t frozen
   |o=>o}
def wit:Array Value:=#[.slice none 0 0,.slice none 0 0,.int .i64 0,.int .i64 0,.int .i64 0,.agg #[.int .i64 0,.int .i64 0,.int .i64 0]]
def yt(os:Os):laidMet Tryz.prog Rows.modelAllowsRow.laid ((Kt os).forCall (fun _ _=>0) ⟨#[],wit,[]⟩).memory:=
 laidMet_of_run' 8 (by kernel_rfl) (by kernel_rfl)
def reads(os:Os){H:Type}(enc:TypeId×Value->H):∃places,DataW.whole enc Tryz.prog ((Kt os).forCall (fun _ _=>0) ⟨#[],wit,[]⟩).memory Tryz.f4.params.toList Rows.modelAllowsSpec.vars false wit.toList 8=some ([.nil,.nil,.lit (.int .i64 0),.lit (.int .i64 0),.lit (.int .i64 0),.agg [.lit (.int .i64 0),.lit (.int .i64 0),.lit (.int .i64 0)]],[],places):=
 ⟨[],by kernel_rfl⟩
def lifted(os:Os)(started:os.Started)(H:Type)(enc:TypeId×Value->H)(F:Stop.Interp):
  ReturnsInHanded {} Tryz.checked os 4 .any ((OpenSpec.ofChange Rows.modelAllowsSpec).preRow enc Tryz.prog Tryz.f4 Rows.modelAllowsRow.domain false Rows.modelAllowsRow.laid) (((OpenSpec.ofChange Rows.modelAllowsSpec).at F).post enc Tryz.prog Tryz.f4 false true false false):=by
 obtain⟨places,hx⟩:=reads os enc
 refine returnsInHanded_of_row (C:=Tryz.checked) (s:=OpenSpec.ofChange Rows.modelAllowsSpec) own started (by kernel_rfl) Tryz.func4
  (
   witness_row_at (enc:=enc) (C:=Tryz.checked) false (Kt os) wit rfl (by kernel_rfl) (by kernel_rfl) (by kernel_rfl)
   (OpenSpec.preRow_of_cond 8 hx (by kernel_rfl) (fun k hk=>by cases hk) (by kernel_rfl) (yt os))) ?_
 intro W base args ds gs before cG hW _ _ hz hL _ _;rw[MakeChecks.laidMetH_plain _ _ _ (by kernel_rfl)]at hL;exact yq H enc W base args ds gs before (aaQ hL) cG hW hz
def said:Rows.ModelAllowsSaid:=
 OpenClaim.holds_of_cond 4 Tryz.f4 rfl rfl rfl rfl rfl rfl rfl ⟨rfl,rfl,rfl,rfl,rfl⟩ rfl rfl rfl rfl rfl (by kernel_rfl) Tryz.func4 ya
  (of_decide_eq_true (by kernel_rfl)) (by unfold Func.isWrapper;first|(rw[if_pos (by decide+kernel)];kernel_rfl)|(rw[if_neg (by decide+kernel)];exact⟨rfl,rfl⟩))
  (fun os started H enc _ F=>by rw[OpenClaim.pre_eq_preRow];exact lifted os started H enc F)
def plain(f:FuncId)(fn:Func)(hf:Tryz.pinned.checked.prog.funcNamed "onair/onairlaw29.ModelAllows"=some f)(DT:Tryz.pinned.checked.prog.funcs[f]?=some fn):
  true=Tryz.pinned.checked.prog.looks []/\∀(j:Nat)t,fn.params[j]?=some t->Tryz.pinned.checked.prog.wantsStandIn t=false:=by
 obtain rfl:f=4:=Option.some.inj ((show Tryz.prog.funcNamed "onair/onairlaw29.ModelAllows"=some 4 by kernel_rfl).symm.trans hf) |>.symm;obtain rfl:fn=Tryz.f4:=(Option.some.inj (Tryz.func4.symm.trans DT)).symm;refine⟨by kernel_rfl,fun j t ht=>?_⟩;rw[Tryz.params4]at ht;have hm:=zzcu ht;simp only[List.mem_toArray,zzau,zzdq,or_false]at hm;obtain rfl|rfl|rfl|rfl|rfl|rfl:=hm
 ·exact(show Tryz.prog.wantsStandIn 22=false by kernel_rfl)
 ·exact(show Tryz.prog.wantsStandIn 23=false by kernel_rfl)
 ·exact(show Tryz.prog.wantsStandIn 3=false by kernel_rfl)
 ·exact(show Tryz.prog.wantsStandIn 3=false by kernel_rfl)
 ·exact(show Tryz.prog.wantsStandIn 3=false by kernel_rfl)
 exact(show Tryz.prog.wantsStandIn 70=false by kernel_rfl)
end
end Go.Proofs.YtnopaopphmjnmaaGreatDoor.law4
namespace Go.Proofs.YtnopaopphmjnmaaGreatDoor
open Go
theorem modelAllows_card:Rows.ModelAllowsCardSaid:=
 Claim7.holds_tied_plain_at .later [] _ _ _ _ law4.said (fun _ h=>by cases h) law4.fWf (fun _ h=>by cases h) modelAllows_row_tie rfl ⟨rfl,rfl⟩ law4.fMa rfl law4.plain law4.fGo
#print axioms modelAllows_card
end Go.Proofs.YtnopaopphmjnmaaGreatDoor
