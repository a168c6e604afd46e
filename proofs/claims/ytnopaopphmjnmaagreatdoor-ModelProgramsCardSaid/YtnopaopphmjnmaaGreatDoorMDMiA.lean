/-
  ModelPrograms returns true for every list of plans and every list of orders, and leaves its arguments as they were.
  Conditions: none beyond the given card's own (the listed variable as the program's text lays it; the form's own reach).
-/
import Derived.Test.YtnopaopphmjnmaaGreatDoorMDRgG
import Derived.Test.YtnopaopphmjnmaaGreatDoorMDMfI
import Derived.Test.YtnopaopphmjnmaaGreatDoorMDMiF
import Derived.Test.YtnopaopphmjnmaaGreatDoorMDMiG
set_option linter.all false
set_option maxRecDepth 100000
namespace Go.Proofs.YtnopaopphmjnmaaGreatDoor.law10
noncomputable section
open Go Go.Abs Go.ChangeShapes Go.WideShapes Go.ChangeAt Go.RowKit
def own:ownKnob Tryz.prog.godebug=none:=by kernel_rfl
def aoR{H:Type}(ds gs:List (DataW H))(hz:(DataW.weightsEach Tryz.prog (Tryz.f10.params.toList++(OpenSpec.ofChange Rows.modelProgramsSpec).bare.plain.varTypes Tryz.prog) (ds++gs)).all (·<=reachBytes)=true)(h:jo Tryz.prog 20 Tryz.f10.params.toList ds):Pure Tryz.prog aq 10 (wq Tryz.prog 20 Tryz.f10.params.toList ds) (.bool true):=by
 have abj:Tryz.f10.params.toList=[22,23]:=by rw[Tryz.params10]
 have hvt:(OpenSpec.ofChange Rows.modelProgramsSpec).bare.plain.varTypes Tryz.prog=[]:=by kernel_rfl
 rw[hvt,zzat,abj,zzbc]at hz;rw[abj]at h |-
 match ds,h with
 |[x0,x1],⟨h0,h1,_⟩=>
  have z0:Sz 22 x0:=fun k hk=>of_decide_eq_true (hz k (by simp only[zzae,DataW.weightsEach,zzap];exact .inl hk));have z1:Sz 23 x1:=fun k hk=>of_decide_eq_true (hz k (by simp only[zzae,DataW.weightsEach,zzap];exact .inr (.inl hk)));obtain⟨ps,b,_,a⟩:=BB (n:=13) h0 z0;obtain⟨l,lb,ll,la⟩:=MB (n:=14) h1 z1;refine Zj (law10 ps l (fun p hp=>⟨fun e he=>((b p hp).ens e he).2.1,fun e he=>((b p hp).ens e he).1.2.2.2.1.2⟩) ll) ⟨?_,?_,trivial⟩
  ·exact a
  exact la
def yD(H:Type)(enc:TypeId×Value->H)(W:World)(base:Nat)(args:Array Value)(ds gs:List (DataW H))(before:List MemPlace)
  (iV:∀g,aB W (G0 D7) (aq g) (.pointer (some ⟨g,0,none⟩)))(cG:∀(j:Nat)t v,Tryz.f10.params[j]?=some t->args[j]?=some v->Value.okWide Tryz.prog W .any base t v)
  (hW:DataW.Whole enc Tryz.prog Tryz.f10.params.toList Rows.modelProgramsSpec.vars false W args.toList ds gs before)
  (hz:(DataW.weightsEach Tryz.prog (Tryz.f10.params.toList++(OpenSpec.ofChange Rows.modelProgramsSpec).bare.plain.varTypes Tryz.prog) (ds++gs)).all (·<=reachBytes)=true):
  Calls Tryz.prog 10 args W fun e W'=>∃v,e=.returned v/\Rows.modelProgramsSpec.post enc Tryz.prog Tryz.f10 false true false false W args v W':=
 oQ (gl:=aq) (d:=20) (bt:=4) rfl (by kernel_rfl) Tryz.underlying4 (by kernel_rfl) (by kernel_rfl) (fun ds hl=>by
   have h2:ds.length=2:=by rw[hl,Tryz.params10];rfl
   match ds,h2 with
   |[a,b],_=>exact⟨rfl,rfl,rfl⟩)
  iV cG hW (aoR ds gs hz)
def Ku(os:Os):World:=
 {World.holding Tryz.prog os ⟨#[],#[],[]⟩with heap:=(World.holding Tryz.prog os ⟨#[],#[],[]⟩).heap.modify 0 fun
   |.cells _ t frozen=>.cells #[.int .i64 24000,.int .i64 1001,.int .i64 24,.int .i64 0,.int .i64 24,.int .i64 1,.int .i64 24,.int .i64 0,.int .i64 25,.int .i64 1,.int .i64 25,.int .i64 0,.int .i64 30000,.int .i64 1001,.int .i64 30,.int .i64 2,.int .i64 30,.int .i64 1,.int .i64 30,.int .i64 0,.int .i64 50,.int .i64 1,.int .i64 50,.int .i64 0,.int .i64 60000,.int .i64 1001,.int .i64 60,.int .i64 4,.int .i64 60,.int .i64 1,.int .i64 60,.int .i64 0] t frozen
   |o=>o}
def wit:Array Value:=#[.slice none 0 0,.slice none 0 0]
def yE(os:Os):laidMet Tryz.prog Rows.modelProgramsRow.laid ((Ku os).forCall (fun _ _=>0) ⟨#[],wit,[]⟩).memory:=
 laidMet_of_run' 8 (by kernel_rfl) (by kernel_rfl)
def reads(os:Os){H:Type}(enc:TypeId×Value->H):∃places,DataW.whole enc Tryz.prog ((Ku os).forCall (fun _ _=>0) ⟨#[],wit,[]⟩).memory Tryz.f10.params.toList Rows.modelProgramsSpec.vars false wit.toList 8=some ([.nil,.nil],[],places):=
 ⟨[],by kernel_rfl⟩
def lifted(os:Os)(started:os.Started)(H:Type)(enc:TypeId×Value->H)(F:Stop.Interp):
  ReturnsInHanded {} Tryz.checked os 10 .any ((OpenSpec.ofChange Rows.modelProgramsSpec).preRow enc Tryz.prog Tryz.f10 Rows.modelProgramsRow.domain false Rows.modelProgramsRow.laid) (((OpenSpec.ofChange Rows.modelProgramsSpec).at F).post enc Tryz.prog Tryz.f10 false true false false):=by
 obtain⟨places,hx⟩:=reads os enc
 refine returnsInHanded_of_row (C:=Tryz.checked) (s:=OpenSpec.ofChange Rows.modelProgramsSpec) own started (by kernel_rfl) Tryz.func10
  (
   witness_row_at (enc:=enc) (C:=Tryz.checked) false (Ku os) wit rfl (by kernel_rfl) (by kernel_rfl) (by kernel_rfl)
   (OpenSpec.preRow_of_cond 8 hx (by kernel_rfl) (fun k hk=>by cases hk) (by kernel_rfl) (yE os))) ?_
 intro W base args ds gs before cG hW _ _ hz hL _ _;rw[MakeChecks.laidMetH_plain _ _ _ (by kernel_rfl)]at hL;exact yD H enc W base args ds gs before (abk hL) cG hW hz
def said:Rows.ModelProgramsSaid:=
 OpenClaim.holds_of_cond 10 Tryz.f10 rfl rfl rfl rfl rfl rfl rfl ⟨rfl,rfl,rfl,rfl,rfl⟩ rfl rfl rfl rfl rfl (by kernel_rfl) Tryz.func10 ym
  (of_decide_eq_true (by kernel_rfl)) (by unfold Func.isWrapper;first|(rw[if_pos (by decide+kernel)];kernel_rfl)|(rw[if_neg (by decide+kernel)];exact⟨rfl,rfl⟩))
  (fun os started H enc _ F=>by rw[OpenClaim.pre_eq_preRow];exact lifted os started H enc F)
def plain(f:FuncId)(fn:Func)(hf:Tryz.pinned.checked.prog.funcNamed "onair/onairlaw29.ModelPrograms"=some f)(D9:Tryz.pinned.checked.prog.funcs[f]?=some fn):
  true=Tryz.pinned.checked.prog.looks []/\∀(j:Nat)t,fn.params[j]?=some t->Tryz.pinned.checked.prog.wantsStandIn t=false:=by
 obtain rfl:f=10:=Option.some.inj ((show Tryz.prog.funcNamed "onair/onairlaw29.ModelPrograms"=some 10 by kernel_rfl).symm.trans hf) |>.symm;obtain rfl:fn=Tryz.f10:=(Option.some.inj (Tryz.func10.symm.trans D9)).symm;refine⟨by kernel_rfl,fun j t ht=>?_⟩;rw[Tryz.params10]at ht;have hm:=zzcv ht;simp only[List.mem_toArray,zzau,zzdr,or_false]at hm;obtain rfl|rfl:=hm
 ·exact(show Tryz.prog.wantsStandIn 22=false by kernel_rfl)
 exact(show Tryz.prog.wantsStandIn 23=false by kernel_rfl)
end
end Go.Proofs.YtnopaopphmjnmaaGreatDoor.law10
namespace Go.Proofs.YtnopaopphmjnmaaGreatDoor
open Go
theorem modelPrograms_card:Rows.ModelProgramsCardSaid:=
 Claim7.holds_tied_plain_at .later [] _ _ _ _ law10.said (fun _ h=>by cases h) law10.fWf (fun _ h=>by cases h) modelPrograms_row_tie rfl ⟨rfl,rfl⟩ law10.fMa rfl law10.plain law10.fGo
#print axioms modelPrograms_card
end Go.Proofs.YtnopaopphmjnmaaGreatDoor
