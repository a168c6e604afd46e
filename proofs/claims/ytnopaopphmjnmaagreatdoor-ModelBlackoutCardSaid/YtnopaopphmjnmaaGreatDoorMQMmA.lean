/-
  ModelBlackout returns true for every plan, every list of orders, every item, every frame and every list of frames, and leaves its arguments as they were.
  Conditions: none beyond the given card's own (the listed variable as the program's text lays it; the form's own reach).
-/
import Derived.Test.YtnopaopphmjnmaaGreatDoorMQRgG
import Derived.Test.YtnopaopphmjnmaaGreatDoorMQMfT
import Derived.Test.YtnopaopphmjnmaaGreatDoorMQMmF
import Derived.Test.YtnopaopphmjnmaaGreatDoorMQMmG
set_option linter.all false
set_option maxRecDepth 100000
namespace Go.Proofs.YtnopaopphmjnmaaGreatDoor.law9
noncomputable section
open Go Go.Abs Go.ChangeShapes Go.WideShapes Go.ChangeAt Go.RowKit
def own:ownKnob Tryz.prog.godebug=none:=by kernel_rfl
def avo{H:Type}(ds gs:List (DataW H))(hz:(DataW.weightsEach Tryz.prog (Tryz.f9.params.toList++(OpenSpec.ofChange Rows.modelBlackoutSpec).bare.plain.varTypes Tryz.prog) (ds++gs)).all (·<=reachBytes)=true)(h:pI Tryz.prog 20 Tryz.f9.params.toList ds):Pure Tryz.prog aA 9 (Dn Tryz.prog 20 Tryz.f9.params.toList ds) (.bool true):=by
 have avp:Tryz.f9.params.toList=[56,23,3,3,59]:=by rw[Tryz.params9]
 have hvt:(OpenSpec.ofChange Rows.modelBlackoutSpec).bare.plain.varTypes Tryz.prog=[]:=by kernel_rfl
 rw[hvt,zzau,avp,zzbh]at hz;rw[avp]at h |-
 match ds,h with
 |[x0,x1,x2,x3,x4],⟨h0,h1,h2,h3,h4,_⟩=>
  have z0:Sz 56 x0:=fun k hk=>of_decide_eq_true (hz k (by simp only[zzad,DataW.weightsEach,zzam];exact .inl hk));have z1:Sz 23 x1:=fun k hk=>of_decide_eq_true (hz k (by simp only[zzad,DataW.weightsEach,zzam];exact .inr (.inl hk)));have z2:Sz 3 x2:=fun k hk=>of_decide_eq_true (hz k (by simp only[zzad,DataW.weightsEach,zzam];exact .inr (.inr (.inl hk))));have z3:Sz 3 x3:=fun k hk=>of_decide_eq_true (hz k (by simp only[zzad,DataW.weightsEach,zzam];exact .inr (.inr (.inr (.inl hk)))));have z4:Sz 59 x4:=fun k hk=>of_decide_eq_true (hz k (by simp only[zzad,DataW.weightsEach,zzam];exact .inr (.inr (.inr (.inr (.inl hk))))));obtain⟨p,b,a⟩:=abQ (n:=14) h0 z0;obtain⟨l,lb,ll,la⟩:=M9 (n:=14) h1 z1;obtain⟨i,i1,i2⟩:=QB (n:=19) h2;obtain⟨f,f1,f2⟩:=QB (n:=19) h3;obtain⟨fs,fb,fl,fa⟩:=abR (n:=18) h4 z4;refine Zo (law9 p l i f fs (fun x hx=>by rw[zzbd]at hx;subst hx;exact⟨fun e he=>(b.ens e he).2.1,fun e he=>(b.ens e he).1.2.2.2.1.2⟩) ll i1 f1 fb fl) ⟨?_,?_,?_,?_,?_,trivial⟩
  ·exact a
  ·exact la
  ·rw[i2];exact zt
  ·rw[f2];exact zt
  exact fa
def abS(H:Type)(enc:TypeId×Value->H)(W:World)(base:Nat)(args:Array Value)(ds gs:List (DataW H))(before:List MemPlace)
  (ji:∀g,aC W (G0 Gf) (aA g) (.pointer (some ⟨g,0,none⟩)))(dm:∀(j:Nat)t v,Tryz.f9.params[j]?=some t->args[j]?=some v->Value.okWide Tryz.prog W .any base t v)
  (hW:DataW.Whole enc Tryz.prog Tryz.f9.params.toList Rows.modelBlackoutSpec.vars false W args.toList ds gs before)
  (hz:(DataW.weightsEach Tryz.prog (Tryz.f9.params.toList++(OpenSpec.ofChange Rows.modelBlackoutSpec).bare.plain.varTypes Tryz.prog) (ds++gs)).all (·<=reachBytes)=true):
  Calls Tryz.prog 9 args W fun e W'=>∃v,e=.returned v/\Rows.modelBlackoutSpec.post enc Tryz.prog Tryz.f9 false true false false W args v W':=
 Dp (gl:=aA) (d:=20) (bt:=4) rfl (by kernel_rfl) Tryz.underlying4 (by kernel_rfl) (by kernel_rfl) (fun ds hl=>by
   have h2:ds.length=5:=by rw[hl,Tryz.params9];rfl
   match ds,h2 with
   |[a,b,c,d,e],_=>exact⟨rfl,rfl,rfl⟩)
  ji dm hW (avo ds gs hz)
def si(os:Os):World:=
 {World.holding Tryz.prog os ⟨#[],#[],[]⟩with heap:=(World.holding Tryz.prog os ⟨#[],#[],[]⟩).heap.modify 0 fun
   |.cells _ t frozen=>.cells #[.int .i64 24000,.int .i64 1001,.int .i64 24,.int .i64 0,.int .i64 24,.int .i64 1,.int .i64 24,.int .i64 0,.int .i64 25,.int .i64 1,.int .i64 25,.int .i64 0,.int .i64 30000,.int .i64 1001,.int .i64 30,.int .i64 2,.int .i64 30,.int .i64 1,.int .i64 30,.int .i64 0,.int .i64 50,.int .i64 1,.int .i64 50,.int .i64 0,.int .i64 60000,.int .i64 1001,.int .i64 60,.int .i64 4,.int .i64 60,.int .i64 1,.int .i64 60,.int .i64 0] t frozen
   |o=>o}
def wit:Array Value:=#[.agg #[.int .i64 0,.int .i64 0,.int .i64 0,.int .i64 0,.slice none 0 0,.int .i64 0,.int .i64 0,.int .i64 0,.int .i64 0,.slice none 0 0,.slice none 0 0,.slice none 0 0,.slice none 0 0],.slice none 0 0,.int .i64 0,.int .i64 0,.slice none 0 0]
def abT(os:Os):laidMet Tryz.prog Rows.modelBlackoutRow.laid ((si os).forCall (fun _ _=>0) ⟨#[],wit,[]⟩).memory:=
 laidMet_of_run' 8 (by kernel_rfl) (by kernel_rfl)
def reads(os:Os){H:Type}(enc:TypeId×Value->H):∃places,DataW.whole enc Tryz.prog ((si os).forCall (fun _ _=>0) ⟨#[],wit,[]⟩).memory Tryz.f9.params.toList Rows.modelBlackoutSpec.vars false wit.toList 8=some ([.agg [.lit (.int .i64 0),.agg [.lit (.int .i64 0),.lit (.int .i64 0)],.agg [.lit (.int .i64 0),.nil],.lit (.int .i64 0),.lit (.int .i64 0),.lit (.int .i64 0),.lit (.int .i64 0),.nil,.nil,.nil,.nil],.nil,.lit (.int .i64 0),.lit (.int .i64 0),.nil],[],places):=
 ⟨[],by kernel_rfl⟩
def lifted(os:Os)(started:os.Started)(H:Type)(enc:TypeId×Value->H)(F:Stop.Interp):
  ReturnsInHanded {} Tryz.checked os 9 .any ((OpenSpec.ofChange Rows.modelBlackoutSpec).preRow enc Tryz.prog Tryz.f9 Rows.modelBlackoutRow.domain false Rows.modelBlackoutRow.laid) (((OpenSpec.ofChange Rows.modelBlackoutSpec).at F).post enc Tryz.prog Tryz.f9 false true false false):=by
 obtain⟨places,hx⟩:=reads os enc
 refine returnsInHanded_of_row (C:=Tryz.checked) (s:=OpenSpec.ofChange Rows.modelBlackoutSpec) own started (by kernel_rfl) Tryz.func9
  (
   witness_row_at (enc:=enc) (C:=Tryz.checked) false (si os) wit rfl (by kernel_rfl) (by kernel_rfl) (by kernel_rfl)
   (OpenSpec.preRow_of_cond 8 hx (by kernel_rfl) (fun k hk=>by cases hk) (by kernel_rfl) (abT os))) ?_
 intro W base args ds gs before dm hW _ _ hz hL _ _;rw[MakeChecks.laidMetH_plain _ _ _ (by kernel_rfl)]at hL;exact abS H enc W base args ds gs before (aoP hL) dm hW hz
def said:Rows.ModelBlackoutSaid:=
 OpenClaim.holds_of_cond 9 Tryz.f9 rfl rfl rfl rfl rfl rfl rfl ⟨rfl,rfl,rfl,rfl,rfl⟩ rfl rfl rfl rfl rfl (by kernel_rfl) Tryz.func9 MF
  (of_decide_eq_true (by kernel_rfl)) (by unfold Func.isWrapper;first|(rw[if_pos (by decide+kernel)];kernel_rfl)|(rw[if_neg (by decide+kernel)];exact⟨rfl,rfl⟩))
  (fun os started H enc _ F=>by rw[OpenClaim.pre_eq_preRow];exact lifted os started H enc F)
def plain(f:FuncId)(fn:Func)(hf:Tryz.pinned.checked.prog.funcNamed "onair/onairlaw29.ModelBlackout"=some f)(J3:Tryz.pinned.checked.prog.funcs[f]?=some fn):
  true=Tryz.pinned.checked.prog.looks []/\∀(j:Nat)t,fn.params[j]?=some t->Tryz.pinned.checked.prog.wantsStandIn t=false:=by
 obtain rfl:f=9:=Option.some.inj ((show Tryz.prog.funcNamed "onair/onairlaw29.ModelBlackout"=some 9 by kernel_rfl).symm.trans hf) |>.symm;obtain rfl:fn=Tryz.f9:=(Option.some.inj (Tryz.func9.symm.trans J3)).symm;refine⟨by kernel_rfl,fun j t ht=>?_⟩;rw[Tryz.params9]at ht;have hm:=zzdc ht;simp only[List.mem_toArray,zzat,zzdy,or_false]at hm;obtain rfl|rfl|rfl|rfl|rfl:=hm
 ·exact(show Tryz.prog.wantsStandIn 56=false by kernel_rfl)
 ·exact(show Tryz.prog.wantsStandIn 23=false by kernel_rfl)
 ·exact(show Tryz.prog.wantsStandIn 3=false by kernel_rfl)
 ·exact(show Tryz.prog.wantsStandIn 3=false by kernel_rfl)
 exact(show Tryz.prog.wantsStandIn 59=false by kernel_rfl)
end
end Go.Proofs.YtnopaopphmjnmaaGreatDoor.law9
namespace Go.Proofs.YtnopaopphmjnmaaGreatDoor
open Go
theorem modelBlackout_card:Rows.ModelBlackoutCardSaid:=
 Claim7.holds_tied_plain_at .later [] _ _ _ _ law9.said (fun _ h=>by cases h) law9.fWf (fun _ h=>by cases h) modelBlackout_row_tie rfl ⟨rfl,rfl⟩ law9.fMa rfl law9.plain law9.fGo
#print axioms modelBlackout_card
