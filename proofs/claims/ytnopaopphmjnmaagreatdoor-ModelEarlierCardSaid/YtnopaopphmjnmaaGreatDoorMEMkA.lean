/-
  ModelEarlier returns true for every plan, every list of orders, every further order, every region and every list of frames, and leaves its arguments as they were.
  Conditions: none beyond the given card's own (the listed variable as the program's text lays it; the form's own reach).
-/
import Derived.Test.YtnopaopphmjnmaaGreatDoorMERgG
import Derived.Test.YtnopaopphmjnmaaGreatDoorMEMfL
import Derived.Test.YtnopaopphmjnmaaGreatDoorMEMkF
import Derived.Test.YtnopaopphmjnmaaGreatDoorMEMkG
set_option linter.all false
set_option maxRecDepth 100000
namespace Go.Proofs.YtnopaopphmjnmaaGreatDoor.law7
noncomputable section
open Go Go.Abs Go.ChangeShapes Go.WideShapes Go.ChangeAt Go.RowKit
def own:ownKnob Tryz.prog.godebug=none:=by kernel_rfl
def aui{H:Type}(ds gs:List (DataW H))(hz:(DataW.weightsEach Tryz.prog (Tryz.f7.params.toList++(OpenSpec.ofChange Rows.modelEarlierSpec).bare.plain.varTypes Tryz.prog) (ds++gs)).all (·<=reachBytes)=true)(h:o6 Tryz.prog 20 Tryz.f7.params.toList ds):Pure Tryz.prog az 7 (CV Tryz.prog 20 Tryz.f7.params.toList ds) (.bool true):=by
 have auj:Tryz.f7.params.toList=[56,23,42,3,59]:=by rw[Tryz.params7]
 have hvt:(OpenSpec.ofChange Rows.modelEarlierSpec).bare.plain.varTypes Tryz.prog=[]:=by kernel_rfl
 rw[hvt,zzat,auj,zzbh]at hz;rw[auj]at h |-
 match ds,h with
 |[x0,x1,x2,x3,x4],⟨h0,h1,h2,h3,h4,_⟩=>
  have z0:Sz 56 x0:=fun k hk=>of_decide_eq_true (hz k (by simp only[zzae,DataW.weightsEach,zzao];exact .inl hk));have z1:Sz 23 x1:=fun k hk=>of_decide_eq_true (hz k (by simp only[zzae,DataW.weightsEach,zzao];exact .inr (.inl hk)));have z2:Sz 42 x2:=fun k hk=>of_decide_eq_true (hz k (by simp only[zzae,DataW.weightsEach,zzao];exact .inr (.inr (.inl hk))));have z3:Sz 3 x3:=fun k hk=>of_decide_eq_true (hz k (by simp only[zzae,DataW.weightsEach,zzao];exact .inr (.inr (.inr (.inl hk)))));have z4:Sz 59 x4:=fun k hk=>of_decide_eq_true (hz k (by simp only[zzae,DataW.weightsEach,zzao];exact .inr (.inr (.inr (.inr (.inl hk))))));obtain⟨p,b,a⟩:=aba (n:=14) h0 z0;obtain⟨l,lb,ll,la⟩:=MD (n:=14) h1 z1;obtain⟨o,ob,oa⟩:=SS (n:=15) h2 z2;obtain⟨r,r1,r2⟩:=agP (n:=19) h3;obtain⟨fs,fb,fl,fa⟩:=abb (n:=18) h4 z4;refine Zu (law7 p l o r fs (fun x hx=>by rw[zzbg]at hx;subst hx;exact⟨fun e he=>(b.ens e he).2.1,fun e he=>(b.ens e he).1.2.2.2.1.2⟩) ll (fun f hf=>(fb f hf).2) fl) ⟨?_,?_,?_,?_,?_,trivial⟩
  ·exact a
  ·exact la
  ·exact oa
  ·rw[r2];exact Wk.refl _
  exact fa
def abc(H:Type)(enc:TypeId×Value->H)(W:World)(base:Nat)(args:Array Value)(ds gs:List (DataW H))(before:List MemPlace)
  (lT:∀g,aB W (G0 FF) (az g) (.pointer (some ⟨g,0,none⟩)))(cD:∀(j:Nat)t v,Tryz.f7.params[j]?=some t->args[j]?=some v->Value.okWide Tryz.prog W .any base t v)
  (hW:DataW.Whole enc Tryz.prog Tryz.f7.params.toList Rows.modelEarlierSpec.vars false W args.toList ds gs before)
  (hz:(DataW.weightsEach Tryz.prog (Tryz.f7.params.toList++(OpenSpec.ofChange Rows.modelEarlierSpec).bare.plain.varTypes Tryz.prog) (ds++gs)).all (·<=reachBytes)=true):
  Calls Tryz.prog 7 args W fun e W'=>∃v,e=.returned v/\Rows.modelEarlierSpec.post enc Tryz.prog Tryz.f7 false true false false W args v W':=
 CW (gl:=az) (d:=20) (bt:=4) rfl (by kernel_rfl) Tryz.underlying4 (by kernel_rfl) (by kernel_rfl) (fun ds hl=>by
   have h2:ds.length=5:=by rw[hl,Tryz.params7];rfl
   match ds,h2 with
   |[a,b,c,d,e],_=>exact⟨rfl,rfl,rfl⟩)
  lT cD hW (aui ds gs hz)
def rT(os:Os):World:=
 {World.holding Tryz.prog os ⟨#[],#[],[]⟩with heap:=(World.holding Tryz.prog os ⟨#[],#[],[]⟩).heap.modify 0 fun
   |.cells _ t frozen=>.cells #[.int .i64 24000,.int .i64 1001,.int .i64 24,.int .i64 0,.int .i64 24,.int .i64 1,.int .i64 24,.int .i64 0,.int .i64 25,.int .i64 1,.int .i64 25,.int .i64 0,.int .i64 30000,.int .i64 1001,.int .i64 30,.int .i64 2,.int .i64 30,.int .i64 1,.int .i64 30,.int .i64 0,.int .i64 50,.int .i64 1,.int .i64 50,.int .i64 0,.int .i64 60000,.int .i64 1001,.int .i64 60,.int .i64 4,.int .i64 60,.int .i64 1,.int .i64 60,.int .i64 0] t frozen
   |o=>o}
def wit:Array Value:=#[.agg #[.int .i64 0,.int .i64 0,.int .i64 0,.int .i64 0,.slice none 0 0,.int .i64 0,.int .i64 0,.int .i64 0,.int .i64 0,.slice none 0 0,.slice none 0 0,.slice none 0 0,.slice none 0 0],.slice none 0 0,.agg #[.int .i64 0,.int .i64 0,.int .i64 0,.int .i64 0,.int .i64 0,.int .i64 0,.int .i64 0,.int .i64 0,.int .i64 0,.int .i64 0,.int .i64 0,.int .i64 0,.slice none 0 0,.int .i64 0,.int .i64 0,.int .i64 0,.int .i64 0,.int .i64 0,.int .i64 0,.int .i64 0,.int .i64 0,.int .i64 0,.int .i64 0,.int .i64 0,.int .i64 0,.string ⟨#[]⟩],.int .i64 0,.slice none 0 0]
def abd(os:Os):laidMet Tryz.prog Rows.modelEarlierRow.laid ((rT os).forCall (fun _ _=>0) ⟨#[],wit,[]⟩).memory:=
 laidMet_of_run' 8 (by kernel_rfl) (by kernel_rfl)
def reads(os:Os){H:Type}(enc:TypeId×Value->H):∃places,DataW.whole enc Tryz.prog ((rT os).forCall (fun _ _=>0) ⟨#[],wit,[]⟩).memory Tryz.f7.params.toList Rows.modelEarlierSpec.vars false wit.toList 8=some ([.agg [.lit (.int .i64 0),.agg [.lit (.int .i64 0),.lit (.int .i64 0)],.agg [.lit (.int .i64 0),.nil],.lit (.int .i64 0),.lit (.int .i64 0),.lit (.int .i64 0),.lit (.int .i64 0),.nil,.nil,.nil,.nil],.nil,.agg [.lit (.int .i64 0),.lit (.int .i64 0),.lit (.int .i64 0),.lit (.int .i64 0),.lit (.int .i64 0),.lit (.int .i64 0),.agg [.lit (.int .i64 0),.lit (.int .i64 0),.lit (.int .i64 0),.lit (.int .i64 0),.lit (.int .i64 0),.lit (.int .i64 0),.nil],.agg [.lit (.int .i64 0),.lit (.int .i64 0),.lit (.int .i64 0),.lit (.int .i64 0),.lit (.int .i64 0),.lit (.int .i64 0),.lit (.int .i64 0),.lit (.int .i64 0)],.agg [.lit (.int .i64 0),.lit (.int .i64 0),.lit (.int .i64 0),.lit (.int .i64 0),.lit (.string [])]],.lit (.int .i64 0),.nil],[],places):=
 ⟨[],by kernel_rfl⟩
def lifted(os:Os)(started:os.Started)(H:Type)(enc:TypeId×Value->H)(F:Stop.Interp):
  ReturnsInHanded {} Tryz.checked os 7 .any ((OpenSpec.ofChange Rows.modelEarlierSpec).preRow enc Tryz.prog Tryz.f7 Rows.modelEarlierRow.domain false Rows.modelEarlierRow.laid) (((OpenSpec.ofChange Rows.modelEarlierSpec).at F).post enc Tryz.prog Tryz.f7 false true false false):=by
 obtain⟨places,hx⟩:=reads os enc
 refine returnsInHanded_of_row (C:=Tryz.checked) (s:=OpenSpec.ofChange Rows.modelEarlierSpec) own started (by kernel_rfl) Tryz.func7
  (
   witness_row_at (enc:=enc) (C:=Tryz.checked) false (rT os) wit rfl (by kernel_rfl) (by kernel_rfl) (by kernel_rfl)
   (OpenSpec.preRow_of_cond 8 hx (by kernel_rfl) (fun k hk=>by cases hk) (by kernel_rfl) (abd os))) ?_
 intro W base args ds gs before cD hW _ _ hz hL _ _;rw[MakeChecks.laidMetH_plain _ _ _ (by kernel_rfl)]at hL;exact abc H enc W base args ds gs before (anS hL) cD hW hz
def said:Rows.ModelEarlierSaid:=
 OpenClaim.holds_of_cond 7 Tryz.f7 rfl rfl rfl rfl rfl rfl rfl ⟨rfl,rfl,rfl,rfl,rfl⟩ rfl rfl rfl rfl rfl (by kernel_rfl) Tryz.func7 Mh
  (of_decide_eq_true (by kernel_rfl)) (by unfold Func.isWrapper;first|(rw[if_pos (by decide+kernel)];kernel_rfl)|(rw[if_neg (by decide+kernel)];exact⟨rfl,rfl⟩))
  (fun os started H enc _ F=>by rw[OpenClaim.pre_eq_preRow];exact lifted os started H enc F)
def plain(f:FuncId)(fn:Func)(hf:Tryz.pinned.checked.prog.funcNamed "onair/onairlaw29.ModelEarlier"=some f)(I3:Tryz.pinned.checked.prog.funcs[f]?=some fn):
  true=Tryz.pinned.checked.prog.looks []/\∀(j:Nat)t,fn.params[j]?=some t->Tryz.pinned.checked.prog.wantsStandIn t=false:=by
 obtain rfl:f=7:=Option.some.inj ((show Tryz.prog.funcNamed "onair/onairlaw29.ModelEarlier"=some 7 by kernel_rfl).symm.trans hf) |>.symm;obtain rfl:fn=Tryz.f7:=(Option.some.inj (Tryz.func7.symm.trans I3)).symm;refine⟨by kernel_rfl,fun j t ht=>?_⟩;rw[Tryz.params7]at ht;have hm:=zzdc ht;simp only[List.mem_toArray,zzaw,zzef,or_false]at hm;obtain rfl|rfl|rfl|rfl|rfl:=hm
 ·exact(show Tryz.prog.wantsStandIn 56=false by kernel_rfl)
 ·exact(show Tryz.prog.wantsStandIn 23=false by kernel_rfl)
 ·exact(show Tryz.prog.wantsStandIn 42=false by kernel_rfl)
 ·exact(show Tryz.prog.wantsStandIn 3=false by kernel_rfl)
 exact(show Tryz.prog.wantsStandIn 59=false by kernel_rfl)
end
end Go.Proofs.YtnopaopphmjnmaaGreatDoor.law7
namespace Go.Proofs.YtnopaopphmjnmaaGreatDoor
open Go
theorem modelEarlier_card:Rows.ModelEarlierCardSaid:=
 Claim7.holds_tied_plain_at .later [] _ _ _ _ law7.said (fun _ h=>by cases h) law7.fWf (fun _ h=>by cases h) modelEarlier_row_tie rfl ⟨rfl,rfl⟩ law7.fMa rfl law7.plain law7.fGo
#print axioms modelEarlier_card
end Go.Proofs.YtnopaopphmjnmaaGreatDoor
