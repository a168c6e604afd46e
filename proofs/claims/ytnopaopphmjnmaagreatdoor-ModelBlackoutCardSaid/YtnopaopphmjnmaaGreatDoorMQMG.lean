import Derived.Test.YtnopaopphmjnmaaGreatDoorMQME
set_option linter.all false
namespace Go.Abs
open Go Go.RowKit
def xg(cs:List AV):List (Nat×Nat×AV)->Option (List AV)
 |[]=>some cs
 |(off,size,a)::r=>bif bare a&&((cellsOf a).length==size)&&Nat.ble (off+size) cs.length then xg (setA cs off (cellsOf a)) r else none
open Go Go.RowKit
inductive YE where
 |nil
 |cons (l:Nat) (T:List AV) (ps:List Nat) (lV body:SC) (rest:YE)
structure Rc where
 code:YE->SC->AS->Option (Exit×AS)
 fn:YE->FuncId->List AV->AM->Option (AV×AM)
section
variable (gl:Nat->AV) (orc:FuncId->List AV->AV) (R:Rc) (ye:YE)
end
section
variable (P:Program) (gl:Nat->AV) (orc:FuncId->List AV->AV) (R:Rc) (ye:YE)
abbrev Tab:=FuncId->Option (SC×List aF×Nat)
end
section
variable {P:Program} {gl:Nat->AV} {orc:FuncId->List AV->AV}
def as1(P:Program)(tab:Tab):Prop:=∀f sc rs n,tab f=some (sc,rs,n)->dz P f sc rs n
open Classical in
def Dq(P:Program):Nat->List (Option (SC×List aF×Nat))->Prop
 |_,[]=>True
 |k,none::r=>Dq P (k+1) r
 |k,some (sc,rs,n)::r=>dz P k sc rs n/\Dq P (k+1) r
def nK:∀{l:List (Option (SC×List aF×Nat))}{k i:Nat}{sc:SC}{rs:List aF}{n:Nat},Dq P k l->l.getD i none=some (sc,rs,n)->dz P (k+i) sc rs n
 |[],_,i,_,_,_,_,h=>by simp at h
 |none::r,k,0,_,_,_,_,h=>by simp at h
 |some (sc',rs',n')::r,k,0,sc,rs,n,ho,h=>by simp at h;obtain⟨rfl,rfl,rfl⟩:=h;exact ho.1
 |none::r,k,i+1,sc,rs,n,ho,h=>by
  have:=nK (k:=k+1) (i:=i) ho (by simpa using h);rwa [show k+(i+1)=k+1+i by omega]
 |some (sc',rs',n')::r,k,i+1,sc,rs,n,ho,h=>by
  have:=nK (k:=k+1) (i:=i) ho.2 (by simpa using h);rwa [show k+(i+1)=k+1+i by omega]
def as2{l:List (Option (SC×List aF×Nat))}(h:Dq P 0 l):as1 P fun f=>l.getD f none:=fun f sc rs n hf=>by
 have:=nK h hf;rwa [zzbw]at this
end
def Yz(P:Program)(f:Func):SC:=match f.body with
 |some c=>Yo P c
 |none=>.bad
def Ua(P:Program)(f:Func):List aF:=gp P f.results.toList
def fgH:Nat->Fg
 |0=>.eff
 |1=>.pre
 |_=>.oth
def drH(p:Nat)(l:List SO):List Nat->SC
 |[]=>.draw (l.take p) (l.drop p)
 |c::f=>if c<100 then .drawE ((c::f).map fgH) (l.take p) (l.drop p)else .drawZ (c-100) (f.map fgH) (l.take p) (l.drop p)
def Qct(P:Program):Code->List (List Nat)->SC×List (List Nat)
 |.skip,h=>(.skip,h)
 |.region _ ops false,h=>(.ops (ops.toList.map (Xm P ops)),h)
 |.region _ ops true,(p::f)::h=>(drH p (ops.toList.map (Xm P ops)) f,h)
 |.seq a b,h=>match Qct P a h with
  |(x,h)=>match Qct P b h with
   |(y,h)=>(.seq x y,h)
 |.cond c a b,h=>match Qct P a h with
  |(x,h)=>match Qct P b h with
   |(y,h)=>(.cond (aB c) x y,h)
 |.block n a,h=>match Qct P a h with
  |(x,h)=>(.block n x,h)
 |.loop a,h=>match Qct P a h with
  |(x,h)=>(.loop x,h)
 |.exit n,h=>(.exit n,h)
 |.label _,h=>(.skip,h)
 |.scope a,h=>match Qct P a h with
  |(x,h)=>(.scope x,h)
 |.rangeFunc g ps a b,h=>match Qct P a h with
  |(x,h)=>match Qct P b h with
   |(y,h)=>(.rfunc (aB g) ps.toList x y,h)
 |.ret,h=>(.ret,h)
 |_,h=>(.bad,h)
def scH(P:Program)(f:Func)(h:List (List Nat)):SC:=match f.body with
 |some c=>(Qct P c h).1
 |none=>.bad
end Go.Abs
