import Derived.Test.YtnopaopphmjnmaaGreatDoorMBME
set_option linter.all false
namespace Go.Abs
open Go Go.RowKit
def vW(cs:List AV):List (Nat×Nat×AV)->Option (List AV)
 |[]=>some cs
 |(off,size,a)::r=>bif bare a&&((cellsOf a).length==size)&&Nat.ble (off+size) cs.length then vW (setA cs off (cellsOf a)) r else none
open Go Go.RowKit
inductive YE where
 |nil
 |cons (l:Nat) (T:List AV) (ps:List Nat) (lH body:SC) (rest:YE)
structure Rc where
 code:YE->SC->AS->Option (Exit×AS)
 fn:YE->FuncId->List AV->AM->Option (AV×AM)
section
variable (gl:Nat->AV) (orc:FuncId->List AV->AV) (R:Rc) (ye:YE)
end
section
variable (P:Program) (gl:Nat->AV) (orc:FuncId->List AV->AV) (R:Rc) (ye:YE)
abbrev Tab:=FuncId->Option (SC×List aF×Nat)
end
section
variable {P:Program} {gl:Nat->AV} {orc:FuncId->List AV->AV}
def arj(P:Program)(tab:Tab):Prop:=∀f sc rs n,tab f=some (sc,rs,n)->c9 P f sc rs n
open Classical in
def Cv(P:Program):Nat->List (Option (SC×List aF×Nat))->Prop
 |_,[]=>True
 |k,none::r=>Cv P (k+1) r
 |k,some (sc,rs,n)::r=>c9 P k sc rs n/\Cv P (k+1) r
def nh:∀{l:List (Option (SC×List aF×Nat))}{k i:Nat}{sc:SC}{rs:List aF}{n:Nat},Cv P k l->l.getD i none=some (sc,rs,n)->c9 P (k+i) sc rs n
 |[],_,i,_,_,_,_,h=>by simp at h
 |none::r,k,0,_,_,_,_,h=>by simp at h
 |some (sc',rs',n')::r,k,0,sc,rs,n,ho,h=>by simp at h;obtain⟨rfl,rfl,rfl⟩:=h;exact ho.1
 |none::r,k,i+1,sc,rs,n,ho,h=>by
  have:=nh (k:=k+1) (i:=i) ho (by simpa using h);rwa [show k+(i+1)=k+1+i by omega]
 |some (sc',rs',n')::r,k,i+1,sc,rs,n,ho,h=>by
  have:=nh (k:=k+1) (i:=i) ho.2 (by simpa using h);rwa [show k+(i+1)=k+1+i by omega]
def ark{l:List (Option (SC×List aF×Nat))}(h:Cv P 0 l):arj P fun f=>l.getD f none:=fun f sc rs n hf=>by
 have:=nh h hf;rwa [zzbt]at this
end
def Yr(P:Program)(f:Func):SC:=match f.body with
 |some c=>Yi P c
 |none=>.bad
def Yt(P:Program)(f:Func):List aF:=fM P f.results.toList
def fgH:Nat->Fg
 |0=>.eff
 |1=>.pre
 |_=>.oth
def drH(p:Nat)(l:List SO):List Nat->SC
 |[]=>.draw (l.take p) (l.drop p)
 |f=>.drawE (f.map fgH) (l.take p) (l.drop p)
def Qcb(P:Program):Code->List (List Nat)->SC×List (List Nat)
 |.skip,h=>(.skip,h)
 |.region _ ops false,h=>(.ops (ops.toList.map (Xu P ops)),h)
 |.region _ ops true,(p::f)::h=>(drH p (ops.toList.map (Xu P ops)) f,h)
 |.seq a b,h=>match Qcb P a h with
  |(x,h)=>match Qcb P b h with
   |(y,h)=>(.seq x y,h)
 |.cond c a b,h=>match Qcb P a h with
  |(x,h)=>match Qcb P b h with
   |(y,h)=>(.cond (aA c) x y,h)
 |.block n a,h=>match Qcb P a h with
  |(x,h)=>(.block n x,h)
 |.loop a,h=>match Qcb P a h with
  |(x,h)=>(.loop x,h)
 |.exit n,h=>(.exit n,h)
 |.label _,h=>(.skip,h)
 |.scope a,h=>match Qcb P a h with
  |(x,h)=>(.scope x,h)
 |.rangeFunc g ps a b,h=>match Qcb P a h with
  |(x,h)=>match Qcb P b h with
   |(y,h)=>(.rfunc (aA g) ps.toList x y,h)
 |.ret,h=>(.ret,h)
 |_,h=>(.bad,h)
def scH(P:Program)(f:Func)(h:List (List Nat)):SC:=match f.body with
 |some c=>(Qcb P c h).1
 |none=>.bad
end Go.Abs
