/-
  ModelRefuses returns true for every list of plans, every number of copies and every order, and leaves its arguments as they were.
  Conditions: none beyond the given card's own (the listed variable as the program's text lays it; the form's own reach).
-/
import Derived.Test.YtnopaopphmjnmaaGreatDoorMDRgG
import Derived.Test.YtnopaopphmjnmaaGreatDoorMDMfI
import Derived.Test.YtnopaopphmjnmaaGreatDoorMDMjF
import Derived.Test.YtnopaopphmjnmaaGreatDoorMDMjG
set_option linter.all false
set_option maxRecDepth 100000
namespace Go.Proofs.YtnopaopphmjnmaaGreatDoor.law8
noncomputable section
open Go Go.Abs Go.ChangeShapes Go.WideShapes Go.ChangeAt Go.RowKit
def own:ownKnob Tryz.prog.godebug=none:=by kernel_rfl
def avi{H:Type}(ds gs:List (DataW H))(hz:(DataW.weightsEach Tryz.prog (Tryz.f8.params.toList++(OpenSpec.ofChange Rows.modelRefusesSpec).bare.plain.varTypes Tryz.prog) (ds++gs)).all (·<=reachBytes)=true)(h:jo Tryz.prog 20 Tryz.f8.params.toList ds):Pure Tryz.prog aq 8 (wq Tryz.prog 20 Tryz.f8.params.toList ds) (.bool true):=by
 have abj:Tryz.f8.params.toList=[22,3,42]:=by rw[Tryz.params8]
 have hvt:(OpenSpec.ofChange Rows.modelRefusesSpec).bare.plain.varTypes Tryz.prog=[]:=by kernel_rfl
 rw[hvt,zzat,abj,zzbc]at hz;rw[abj]at h |-
 match ds,h with
 |[x0,x1,x2],⟨h0,h1,h2,_⟩=>
  have z0:Sz 22 x0:=fun k hk=>of_decide_eq_true (hz k (by simp only[zzae,DataW.weightsEach,zzap];exact .inl hk));have z1:Sz 3 x1:=fun k hk=>of_decide_eq_true (hz k (by simp only[zzae,DataW.weightsEach,zzap];exact .inr (.inl hk)));have z2:Sz 42 x2:=fun k hk=>of_decide_eq_true (hz k (by simp only[zzae,DataW.weightsEach,zzap];exact .inr (.inr (.inl hk))));obtain⟨ps,b,_,a⟩:=BB (n:=13) h0 z0;obtain⟨c,c1,c2⟩:=ahd (n:=19) h1;obtain⟨o,ob,oa⟩:=SP (n:=15) h2 z2;refine Zj (law8 ps c o (fun p hp=>⟨fun e he=>((b p hp).ens e he).2.1,fun e he=>((b p hp).ens e he).1.2.2.2.1.2⟩) c1.1 c1.2 ob.en.2.1) ⟨?_,?_,?_,trivial⟩
  ·exact a
  ·rw[c2];exact Wk.refl _
  exact oa
def yD(H:Type)(enc:TypeId×Value->H)(W:World)(base:Nat)(args:Array Value)(ds gs:List (DataW H))(before:List MemPlace)
  (iV:∀g,aB W (G0 D7) (aq g) (.pointer (some ⟨g,0,none⟩)))(cG:∀(j:Nat)t v,Tryz.f8.params[j]?=some t->args[j]?=some v->Value.okWide Tryz.prog W .any base t v)
  (hW:DataW.Whole enc Tryz.prog Tryz.f8.params.toList Rows.modelRefusesSpec.vars false W args.toList ds gs before)
  (hz:(DataW.weightsEach Tryz.prog (Tryz.f8.params.toList++(OpenSpec.ofChange Rows.modelRefusesSpec).bare.plain.varTypes Tryz.prog) (ds++gs)).all (·<=reachBytes)=true):
  Calls Tryz.prog 8 args W fun e W'=>∃v,e=.returned v/\Rows.modelRefusesSpec.post enc Tryz.prog Tryz.f8 false true false false W args v W':=
 oQ (gl:=aq) (d:=20) (bt:=4) rfl (by kernel_rfl) Tryz.underlying4 (by kernel_rfl) (by kernel_rfl) (fun ds hl=>by
   have h2:ds.length=3:=by rw[hl,Tryz.params8];rfl
   match ds,h2 with
   |[a,b,c],_=>exact⟨rfl,rfl,rfl⟩)
  iV cG hW (avi ds gs hz)
def Ku(os:Os):World:=
 {World.holding Tryz.prog os ⟨#[],#[],[]⟩with heap:=(World.holding Tryz.prog os ⟨#[],#[],[]⟩).heap.modify 0 fun
   |.cells _ t frozen=>.cells #[.int .i64 24000,.int .i64 1001,.int .i64 24,.int .i64 0,.int .i64 24,.int .i64 1,.int .i64 24,.int .i64 0,.int .i64 25,.int .i64 1,.int .i64 25,.int .i64 0,.int .i64 30000,.int .i64 1001,.int .i64 30,.int .i64 2,.int .i64 30,.int .i64 1,.int .i64 30,.int .i64 0,.int .i64 50,.int .i64 1,.int .i64 50,.int .i64 0,.int .i64 60000,.int .i64 1001,.int .i64 60,.int .i64 4,.int .i64 60,.int .i64 1,.int .i64 60,.int .i64 0] t frozen
   |o=>o}
def wit:Array Value:=#[.slice none 0 0,.int .i64 0,.agg #[.int .i64 0,.int .i64 0,.int .i64 0,.int .i64 0,.int .i64 0,.int .i64 0,.int .i64 0,.int .i64 0,.int .i64 0,.int .i64 0,.int .i64 0,.int .i64 0,.slice none 0 0,.int .i64 0,.int .i64 0,.int .i64 0,.int .i64 0,.int .i64 0,.int .i64 0,.int .i64 0,.int .i64 0,.int .i64 0,.int .i64 0,.int .i64 0,.int .i64 0,.string ⟨#[]⟩]]
def yE(os:Os):laidMet Tryz.prog Rows.modelRefusesRow.laid ((Ku os).forCall (fun _ _=>0) ⟨#[],wit,[]⟩).memory:=
 laidMet_of_run' 8 (by kernel_rfl) (by kernel_rfl)
def reads(os:Os){H:Type}(enc:TypeId×Value->H):∃places,DataW.whole enc Tryz.prog ((Ku os).forCall (fun _ _=>0) ⟨#[],wit,[]⟩).memory Tryz.f8.params.toList Rows.modelRefusesSpec.vars false wit.toList 8=some ([.nil,.lit (.int .i64 0),.agg [.lit (.int .i64 0),.lit (.int .i64 0),.lit (.int .i64 0),.lit (.int .i64 0),.lit (.int .i64 0),.lit (.int .i64 0),.agg [.lit (.int .i64 0),.lit (.int .i64 0),.lit (.int .i64 0),.lit (.int .i64 0),.lit (.int .i64 0),.lit (.int .i64 0),.nil],.agg [.lit (.int .i64 0),.lit (.int .i64 0),.lit (.int .i64 0),.lit (.int .i64 0),.lit (.int .i64 0),.lit (.int .i64 0),.lit (.int .i64 0),.lit (.int .i64 0)],.agg [.lit (.int .i64 0),.lit (.int .i64 0),.lit (.int .i64 0),.lit (.int .i64 0),.lit (.string [])]]],[],places):=
 ⟨[],by kernel_rfl⟩
def lifted(os:Os)(started:os.Started)(H:Type)(enc:TypeId×Value->H)(F:Stop.Interp):
  ReturnsInHanded {} Tryz.checked os 8 .any ((OpenSpec.ofChange Rows.modelRefusesSpec).preRow enc Tryz.prog Tryz.f8 Rows.modelRefusesRow.domain false Rows.modelRefusesRow.laid) (((OpenSpec.ofChange Rows.modelRefusesSpec).at F).post enc Tryz.prog Tryz.f8 false true false false):=by
 obtain⟨places,hx⟩:=reads os enc
 refine returnsInHanded_of_row (C:=Tryz.checked) (s:=OpenSpec.ofChange Rows.modelRefusesSpec) own started (by kernel_rfl) Tryz.func8
  (
   witness_row_at (enc:=enc) (C:=Tryz.checked) false (Ku os) wit rfl (by kernel_rfl) (by kernel_rfl) (by kernel_rfl)
   (OpenSpec.preRow_of_cond 8 hx (by kernel_rfl) (fun k hk=>by cases hk) (by kernel_rfl) (yE os))) ?_
 intro W base args ds gs before cG hW _ _ hz hL _ _;rw[MakeChecks.laidMetH_plain _ _ _ (by kernel_rfl)]at hL;exact yD H enc W base args ds gs before (abk hL) cG hW hz
def said:Rows.ModelRefusesSaid:=
 OpenClaim.holds_of_cond 8 Tryz.f8 rfl rfl rfl rfl rfl rfl rfl ⟨rfl,rfl,rfl,rfl,rfl⟩ rfl rfl rfl rfl rfl (by kernel_rfl) Tryz.func8 ym
  (of_decide_eq_true (by kernel_rfl)) (by unfold Func.isWrapper;first|(rw[if_pos (by decide+kernel)];kernel_rfl)|(rw[if_neg (by decide+kernel)];exact⟨rfl,rfl⟩))
  (fun os started H enc _ F=>by rw[OpenClaim.pre_eq_preRow];exact lifted os started H enc F)
def plain(f:FuncId)(fn:Func)(hf:Tryz.pinned.checked.prog.funcNamed "onair/onairlaw29.ModelRefuses"=some f)(D9:Tryz.pinned.checked.prog.funcs[f]?=some fn):
  true=Tryz.pinned.checked.prog.looks []/\∀(j:Nat)t,fn.params[j]?=some t->Tryz.pinned.checked.prog.wantsStandIn t=false:=by
 obtain rfl:f=8:=Option.some.inj ((show Tryz.prog.funcNamed "onair/onairlaw29.ModelRefuses"=some 8 by kernel_rfl).symm.trans hf) |>.symm;obtain rfl:fn=Tryz.f8:=(Option.some.inj (Tryz.func8.symm.trans D9)).symm;refine⟨by kernel_rfl,fun j t ht=>?_⟩;rw[Tryz.params8]at ht;have hm:=zzcv ht;simp only[List.mem_toArray,zzau,zzdr,or_false]at hm;obtain rfl|rfl|rfl:=hm
 ·exact(show Tryz.prog.wantsStandIn 22=false by kernel_rfl)
 ·exact(show Tryz.prog.wantsStandIn 3=false by kernel_rfl)
 exact(show Tryz.prog.wantsStandIn 42=false by kernel_rfl)
end
end Go.Proofs.YtnopaopphmjnmaaGreatDoor.law8
namespace Go.Proofs.YtnopaopphmjnmaaGreatDoor
open Go
theorem modelRefuses_card:Rows.ModelRefusesCardSaid:=
 Claim7.holds_tied_plain_at .later [] _ _ _ _ law8.said (fun _ h=>by cases h) law8.fWf (fun _ h=>by cases h) modelRefuses_row_tie rfl ⟨rfl,rfl⟩ law8.fMa rfl law8.plain law8.fGo
#print axioms modelRefuses_card
end Go.Proofs.YtnopaopphmjnmaaGreatDoor
