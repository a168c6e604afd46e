/-
  ReplanDecodedAgain returns true for every string, and leaves its argument as it was.
  Conditions: none beyond the given card's own (the listed variables as the program's text lays them; the form's own reach).
-/
import Derived.Test.YtfliagpjbbkijaaGreatDoorVAWkD
import Derived.Test.YtfliagpjbbkijaaGreatDoorVARwF
import Derived.Test.YtfliagpjbbkijaaGreatDoorVARwY
set_option linter.all false
set_option maxRecDepth 100000
namespace Go.Proofs.YtfliagpjbbkijaaGreatDoor.law4
noncomputable section
open Go Go.Abs Go.ChangeShapes Go.WideShapes Go.ChangeAt Go.RowKit
def own:ownKnob Tryz.prog.godebug=none:=by kernel_rfl
def atd{H:Type}{a0 a1:Addr}(aJ:a0≠a1)(ds gs:List (DataW H))(hz:(DataW.weightsEach Tryz.prog (Tryz.f4.params.toList++(OpenSpec.ofChange Rows.replanDecodedAgainSpec).bare.plain.varTypes Tryz.prog) (ds++gs)).all (·<=reachBytes)=true)(h:jV Tryz.prog 20 Tryz.f4.params.toList ds):Pure Tryz.prog (eL a0 a1) 4 (yJ Tryz.prog 20 Tryz.f4.params.toList ds) (.bool true):=by
 have aat:Tryz.f4.params.toList=[9]:=by rw[Tryz.params4]
 have hvt:(OpenSpec.ofChange Rows.replanDecodedAgainSpec).bare.plain.varTypes Tryz.prog=[]:=by kernel_rfl
 rw[hvt,zzas,aat,zzbe]at hz;rw[aat]at h |-
 match ds,h with
 |[x0],⟨h0,_⟩=>
  have z0:Sz 9 x0:=fun k hk=>of_decide_eq_true (hz k (by simp only[zzae,DataW.weightsEach,zzap];exact .inl hk));obtain⟨s,sa⟩:=afS (n:=19) h0;refine Xp (law4 aJ s) ⟨?_,trivial⟩
  ·rw[sa];exact Pa
def yK{a0 a1:Addr}(aJ:a0≠a1)(H:Type)(enc:TypeId×Value->H)(W:World)(base:Nat)(args:PP)(ds gs:List (DataW H))(before:List MemPlace)
  (eG:∀g,au W (G0 BY) (eL a0 a1 g) (.pointer (some ⟨g,0,none⟩)))(cU:∀(j:Nat)t v,Tryz.f4.params[j]?=some t->args[j]?=some v->Value.okWide Tryz.prog W .any base t v)
  (hW:DataW.Whole enc Tryz.prog Tryz.f4.params.toList Rows.replanDecodedAgainSpec.vars false W args.toList ds gs before)
  (hz:(DataW.weightsEach Tryz.prog (Tryz.f4.params.toList++(OpenSpec.ofChange Rows.replanDecodedAgainSpec).bare.plain.varTypes Tryz.prog) (ds++gs)).all (·<=reachBytes)=true):
  Calls Tryz.prog 4 args W fun e W'=>∃v,e=.returned v/\Rows.replanDecodedAgainSpec.post enc Tryz.prog Tryz.f4 false true false false W args v W':=
 qm (gl:=eL a0 a1) (d:=20) (bt:=4) rfl (by kernel_rfl) Tryz.underlying4 (by kernel_rfl) (by kernel_rfl) (fun ds hl=>by
   have h2:ds.length=1:=by rw[hl,Tryz.params4];rfl
   match ds,h2 with
   |[a],_=>exact⟨rfl,rfl,rfl⟩)
  eG cU hW (atd aJ ds gs hz)
def Kv(os:Os):World:=
 let w:=World.holding Tryz.prog os ⟨#[],#[],[]⟩
 {w with heap:=((((w.heap.modify 2 fun
   |.cells _ t frozen=>.cells #[.int .i64 24000,.int .i64 1001,.int .i64 24,.int .i64 0,.int .i64 24,.int .i64 1,.int .i64 24,.int .i64 0,.int .i64 25,.int .i64 1,.int .i64 25,.int .i64 0,.int .i64 30000,.int .i64 1001,.int .i64 30,.int .i64 2,.int .i64 30,.int .i64 1,.int .i64 30,.int .i64 0,.int .i64 50,.int .i64 1,.int .i64 50,.int .i64 0,.int .i64 60000,.int .i64 1001,.int .i64 60,.int .i64 4,.int .i64 60,.int .i64 1,.int .i64 60,.int .i64 0] t frozen
   |o=>o).modify 0 fun
   |.cells _ t frozen=>.cells #[.iface 376 (.pointer (some ⟨w.heap.size,0,none⟩))] t frozen
   |o=>o).modify 1 fun
   |.cells _ t frozen=>.cells #[.iface 376 (.pointer (some ⟨w.heap.size+1,0,none⟩))] t frozen
   |o=>o).push (.cells #[.string ⟨#[110,111,32,101,110,99,111,100,105,110,103]⟩] 399)).push (.cells #[.string ⟨#[110,111,32,111,114,100,101,114]⟩] 399)}
def wit:PP:=#[.string ⟨#[]⟩]
def yL(os:Os):laidMet Tryz.prog Rows.replanDecodedAgainRow.laid ((Kv os).forCall (fun _ _=>0) ⟨#[],wit,[]⟩).memory:=
 laidMet_of_run' 8 (by kernel_rfl) (by kernel_rfl)
def reads(os:Os){H:Type}(enc:TypeId×Value->H):∃places,DataW.whole enc Tryz.prog ((Kv os).forCall (fun _ _=>0) ⟨#[],wit,[]⟩).memory Tryz.f4.params.toList Rows.replanDecodedAgainSpec.vars false wit.toList 8=some ([.lit (.string [])],[],places):=
 ⟨[],by kernel_rfl⟩
def lifted(os:Os)(started:os.Started)(H:Type)(enc:TypeId×Value->H)(F:Stop.Interp):
  ReturnsInHanded {} Tryz.checked os 4 .any ((OpenSpec.ofChange Rows.replanDecodedAgainSpec).preRow enc Tryz.prog Tryz.f4 Rows.replanDecodedAgainRow.domain false Rows.replanDecodedAgainRow.laid) (((OpenSpec.ofChange Rows.replanDecodedAgainSpec).at F).post enc Tryz.prog Tryz.f4 false true false false):=by
 obtain⟨places,hx⟩:=reads os enc
 refine returnsInHanded_of_row (C:=Tryz.checked) (s:=OpenSpec.ofChange Rows.replanDecodedAgainSpec) own started (by kernel_rfl) Tryz.func4
  (
   witness_row_at (enc:=enc) (C:=Tryz.checked) false (Kv os) wit rfl (by kernel_rfl) (by kernel_rfl) (by kernel_rfl)
   (OpenSpec.preRow_of_cond 8 hx (by kernel_rfl) (fun k hk=>by cases hk) (by kernel_rfl) (yL os))) ?_
 intro W base args ds gs before cU hW _ _ hz hL _ _;rw[MakeChecks.laidMetH_plain _ _ _ (by kernel_rfl)]at hL;obtain⟨a0,a1,aJ,hg⟩:=OV hL;exact yK aJ H enc W base args ds gs before hg cU hW hz
def said:Rows.ReplanDecodedAgainSaid:=
 OpenClaim.holds_of_cond 4 Tryz.f4 rfl rfl rfl rfl rfl rfl rfl ⟨rfl,rfl,rfl,rfl,rfl⟩ rfl rfl rfl rfl rfl (by kernel_rfl) Tryz.func4 yD
  (of_decide_eq_true (by kernel_rfl)) (by unfold Func.isWrapper;first|(rw[if_pos (by decide+kernel)];kernel_rfl)|(rw[if_neg (by decide+kernel)];exact⟨rfl,rfl⟩))
  (fun os started H enc _ F=>by rw[OpenClaim.pre_eq_preRow];exact lifted os started H enc F)
def plain(f:FuncId)(fn:Func)(hf:Tryz.pinned.checked.prog.funcNamed "onair/onairlaw15.ReplanDecodedAgain"=some f)(S1:Tryz.pinned.checked.prog.funcs[f]?=some fn):
  true=Tryz.pinned.checked.prog.looks []/\∀(j:Nat)t,fn.params[j]?=some t->Tryz.pinned.checked.prog.wantsStandIn t=false:=by
 obtain rfl:f=4:=Option.some.inj ((show Tryz.prog.funcNamed "onair/onairlaw15.ReplanDecodedAgain"=some 4 by kernel_rfl).symm.trans hf) |>.symm;obtain rfl:fn=Tryz.f4:=(Option.some.inj (Tryz.func4.symm.trans S1)).symm;refine⟨by kernel_rfl,fun j t ht=>?_⟩;rw[Tryz.params4]at ht;have hm:=zzcx ht;simp only[List.mem_toArray,zzao,zzcn,or_false]at hm;obtain rfl:=hm
 ·exact(show Tryz.prog.wantsStandIn 9=false by kernel_rfl)
end
end Go.Proofs.YtfliagpjbbkijaaGreatDoor.law4
namespace Go.Proofs.YtfliagpjbbkijaaGreatDoor
open Go
theorem replanDecodedAgain_card:Rows.ReplanDecodedAgainCardSaid:=
 Claim7.holds_tied_plain_at .later [] _ _ _ _ law4.said (fun _ h=>by cases h) law4.fWf (fun _ h=>by cases h) replanDecodedAgain_row_tie rfl ⟨rfl,rfl⟩ law4.fMa rfl law4.plain law4.fGo
#print axioms replanDecodedAgain_card
