/-
  ModelOne returns true for every plan, every list of orders, every region and every frame, and leaves its arguments as they were.
  Conditions: none beyond the given card's own (the listed variable as the program's text lays it; the form's own reach).
-/
import Derived.Test.YtnopaopphmjnmaaGreatDoorMBRgG
import Derived.Test.YtnopaopphmjnmaaGreatDoorMBMfB
import Derived.Test.YtnopaopphmjnmaaGreatDoorMBMhF
import Derived.Test.YtnopaopphmjnmaaGreatDoorMBMhG
set_option linter.all false
set_option maxRecDepth 100000
namespace Go.Proofs.YtnopaopphmjnmaaGreatDoor.law6
noncomputable section
open Go Go.Abs Go.ChangeShapes Go.WideShapes Go.ChangeAt Go.RowKit
def own:ownKnob Tryz.prog.godebug=none:=by kernel_rfl
def atv{H:Type}(ds gs:List (DataW H))(hz:(DataW.weightsEach Tryz.prog (Tryz.f6.params.toList++(OpenSpec.ofChange Rows.modelOneSpec).bare.plain.varTypes Tryz.prog) (ds++gs)).all (·<=reachBytes)=true)(h:jg Tryz.prog 20 Tryz.f6.params.toList ds):Pure Tryz.prog az 6 (vV Tryz.prog 20 Tryz.f6.params.toList ds) (.bool true):=by
 have aaP:Tryz.f6.params.toList=[56,23,3,3]:=by rw[Tryz.params6]
 have hvt:(OpenSpec.ofChange Rows.modelOneSpec).bare.plain.varTypes Tryz.prog=[]:=by kernel_rfl
 rw[hvt,zzat,aaP,zzbg]at hz;rw[aaP]at h |-
 match ds,h with
 |[x0,x1,x2,x3],⟨h0,h1,h2,h3,_⟩=>
  have z0:Sz 56 x0:=fun k hk=>of_decide_eq_true (hz k (by simp only[zzae,DataW.weightsEach,zzal];exact .inl hk));have z1:Sz 23 x1:=fun k hk=>of_decide_eq_true (hz k (by simp only[zzae,DataW.weightsEach,zzal];exact .inr (.inl hk)));have z2:Sz 3 x2:=fun k hk=>of_decide_eq_true (hz k (by simp only[zzae,DataW.weightsEach,zzal];exact .inr (.inr (.inl hk))));have z3:Sz 3 x3:=fun k hk=>of_decide_eq_true (hz k (by simp only[zzae,DataW.weightsEach,zzal];exact .inr (.inr (.inr (.inl hk)))));obtain⟨p,b,a⟩:=aaR (n:=14) h0 z0;obtain⟨l,lb,ll,la⟩:=yp (n:=14) h1 z1;obtain⟨r,r1,r2⟩:=pV (n:=19) h2;obtain⟨f,f1,f2⟩:=pV (n:=19) h3;refine Zk (law6 p l r f (fun x hx=>by rw[zzbk]at hx;subst hx;exact⟨fun e he=>(b.ens e he).2.1,fun e he=>(b.ens e he).1.2.2.2.1.2⟩) ll f1.2) ⟨?_,?_,?_,?_,trivial⟩
  ·exact a
  ·exact la
  ·rw[r2];exact Wk.refl _
  rw[f2];exact Wk.refl _
def yq(H:Type)(enc:TypeId×Value->H)(W:World)(base:Nat)(args:Array Value)(ds gs:List (DataW H))(before:List MemPlace)
  (iQ:∀g,aB W (G0 DR) (az g) (.pointer (some ⟨g,0,none⟩)))(cG:∀(j:Nat)t v,Tryz.f6.params[j]?=some t->args[j]?=some v->Value.okWide Tryz.prog W .any base t v)
  (hW:DataW.Whole enc Tryz.prog Tryz.f6.params.toList Rows.modelOneSpec.vars false W args.toList ds gs before)
  (hz:(DataW.weightsEach Tryz.prog (Tryz.f6.params.toList++(OpenSpec.ofChange Rows.modelOneSpec).bare.plain.varTypes Tryz.prog) (ds++gs)).all (·<=reachBytes)=true):
  Calls Tryz.prog 6 args W fun e W'=>∃v,e=.returned v/\Rows.modelOneSpec.post enc Tryz.prog Tryz.f6 false true false false W args v W':=
 oH (gl:=az) (d:=20) (bt:=4) rfl (by kernel_rfl) Tryz.underlying4 (by kernel_rfl) (by kernel_rfl) (fun ds hl=>by
   have h2:ds.length=4:=by rw[hl,Tryz.params6];rfl
   match ds,h2 with
   |[a,b,c,d],_=>exact⟨rfl,rfl,rfl⟩)
  iQ cG hW (atv ds gs hz)
def Kt(os:Os):World:=
 {World.holding Tryz.prog os ⟨#[],#[],[]⟩with heap:=(World.holding Tryz.prog os ⟨#[],#[],[]⟩).heap.modify 0 fun
   |.cells _ t frozen=>.cells #[.int .i64 24000,.int .i64 1001,.int .i64 24,.int .i64 0,.int .i64 24,.int .i64 1,.int .i64 24,.int .i64 0,.int .i64 25,.int .i64 1,.int .i64 25,.int .i64 0,.int .i64 30000,.int .i64 1001,.int .i64 30,.int .i64 2,.int .i64 30,.int .i64 1,.int .i64 30,.int .i64 0,.int .i64 50,.int .i64 1,.int .i64 50,.int .i64 0,.int .i64 60000,.int .i64 1001,.int .i64 60,.int .i64 4,.int .i64 60,.int .i64 1,.int .i64 60,.int .i64 0] t frozen
   |o=>o}
def wit:Array Value:=#[.agg #[.int .i64 0,.int .i64 0,.int .i64 0,.int .i64 0,.slice none 0 0,.int .i64 0,.int .i64 0,.int .i64 0,.int .i64 0,.slice none 0 0,.slice none 0 0,.slice none 0 0,.slice none 0 0],.slice none 0 0,.int .i64 0,.int .i64 0]
def yt(os:Os):laidMet Tryz.prog Rows.modelOneRow.laid ((Kt os).forCall (fun _ _=>0) ⟨#[],wit,[]⟩).memory:=
 laidMet_of_run' 8 (by kernel_rfl) (by kernel_rfl)
def reads(os:Os){H:Type}(enc:TypeId×Value->H):∃places,DataW.whole enc Tryz.prog ((Kt os).forCall (fun _ _=>0) ⟨#[],wit,[]⟩).memory Tryz.f6.params.toList Rows.modelOneSpec.vars false wit.toList 8=some ([.agg [.lit (.int .i64 0),.agg [.lit (.int .i64 0),.lit (.int .i64 0)],.agg [.lit (.int .i64 0),.nil],.lit (.int .i64 0),.lit (.int .i64 0),.lit (.int .i64 0),.lit (.int .i64 0),.nil,.nil,.nil,.nil],.nil,.lit (.int .i64 0),.lit (.int .i64 0)],[],places):=
 ⟨[],by kernel_rfl⟩
def lifted(os:Os)(started:os.Started)(H:Type)(enc:TypeId×Value->H)(F:Stop.Interp):
  ReturnsInHanded {} Tryz.checked os 6 .any ((OpenSpec.ofChange Rows.modelOneSpec).preRow enc Tryz.prog Tryz.f6 Rows.modelOneRow.domain false Rows.modelOneRow.laid) (((OpenSpec.ofChange Rows.modelOneSpec).at F).post enc Tryz.prog Tryz.f6 false true false false):=by
 obtain⟨places,hx⟩:=reads os enc
 refine returnsInHanded_of_row (C:=Tryz.checked) (s:=OpenSpec.ofChange Rows.modelOneSpec) own started (by kernel_rfl) Tryz.func6
  (
   witness_row_at (enc:=enc) (C:=Tryz.checked) false (Kt os) wit rfl (by kernel_rfl) (by kernel_rfl) (by kernel_rfl)
   (OpenSpec.preRow_of_cond 8 hx (by kernel_rfl) (fun k hk=>by cases hk) (by kernel_rfl) (yt os))) ?_
 intro W base args ds gs before cG hW _ _ hz hL _ _;rw[MakeChecks.laidMetH_plain _ _ _ (by kernel_rfl)]at hL;exact yq H enc W base args ds gs before (aaQ hL) cG hW hz
def said:Rows.ModelOneSaid:=
 OpenClaim.holds_of_cond 6 Tryz.f6 rfl rfl rfl rfl rfl rfl rfl ⟨rfl,rfl,rfl,rfl,rfl⟩ rfl rfl rfl rfl rfl (by kernel_rfl) Tryz.func6 ya
  (of_decide_eq_true (by kernel_rfl)) (by unfold Func.isWrapper;first|(rw[if_pos (by decide+kernel)];kernel_rfl)|(rw[if_neg (by decide+kernel)];exact⟨rfl,rfl⟩))
  (fun os started H enc _ F=>by rw[OpenClaim.pre_eq_preRow];exact lifted os started H enc F)
def plain(f:FuncId)(fn:Func)(hf:Tryz.pinned.checked.prog.funcNamed "onair/onairlaw29.ModelOne"=some f)(DT:Tryz.pinned.checked.prog.funcs[f]?=some fn):
  true=Tryz.pinned.checked.prog.looks []/\∀(j:Nat)t,fn.params[j]?=some t->Tryz.pinned.checked.prog.wantsStandIn t=false:=by
 obtain rfl:f=6:=Option.some.inj ((show Tryz.prog.funcNamed "onair/onairlaw29.ModelOne"=some 6 by kernel_rfl).symm.trans hf) |>.symm;obtain rfl:fn=Tryz.f6:=(Option.some.inj (Tryz.func6.symm.trans DT)).symm;refine⟨by kernel_rfl,fun j t ht=>?_⟩;rw[Tryz.params6]at ht;have hm:=zzcu ht;simp only[List.mem_toArray,zzau,zzdq,or_false]at hm;obtain rfl|rfl|rfl|rfl:=hm
 ·exact(show Tryz.prog.wantsStandIn 56=false by kernel_rfl)
 ·exact(show Tryz.prog.wantsStandIn 23=false by kernel_rfl)
 ·exact(show Tryz.prog.wantsStandIn 3=false by kernel_rfl)
 exact(show Tryz.prog.wantsStandIn 3=false by kernel_rfl)
end
end Go.Proofs.YtnopaopphmjnmaaGreatDoor.law6
namespace Go.Proofs.YtnopaopphmjnmaaGreatDoor
open Go
theorem modelOne_card:Rows.ModelOneCardSaid:=
 Claim7.holds_tied_plain_at .later [] _ _ _ _ law6.said (fun _ h=>by cases h) law6.fWf (fun _ h=>by cases h) modelOne_row_tie rfl ⟨rfl,rfl⟩ law6.fMa rfl law6.plain law6.fGo
#print axioms modelOne_card
end Go.Proofs.YtnopaopphmjnmaaGreatDoor
