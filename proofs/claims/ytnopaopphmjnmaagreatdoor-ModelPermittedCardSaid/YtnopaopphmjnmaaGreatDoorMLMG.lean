import Derived.Test.YtnopaopphmjnmaaGreatDoorMLME
set_option linter.all false
namespace Go.Abs
open Go Go.RowKit
def wN(cs:List AV):List (Nat×Nat×AV)->Option (List AV)
 |[]=>some cs
 |(off,size,a)::r=>bif bare a&&((cellsOf a).length==size)&&Nat.ble (off+size) cs.length then wN (setA cs off (cellsOf a)) r else none
open Go Go.RowKit
inductive YE where
 |nil
 |cons (l:Nat) (T:List AV) (ps:List Nat) (lT body:SC) (rest:YE)
structure Rc where
 code:YE->SC->AS->Option (Exit×AS)
 fn:YE->FuncId->List AV->AM->Option (AV×AM)
section
variable (gl:Nat->AV) (orc:FuncId->List AV->AV) (R:Rc) (ye:YE)
end
section
variable (P:Program) (gl:Nat->AV) (orc:FuncId->List AV->AV) (R:Rc) (ye:YE)
abbrev Tab:=FuncId->Option (SC×List aD×Nat)
end
section
variable {P:Program} {gl:Nat->AV} {orc:FuncId->List AV->AV}
def arR(P:Program)(tab:Tab):Prop:=∀f sc rs n,tab f=some (sc,rs,n)->dh P f sc rs n
open Classical in
def CV(P:Program):Nat->List (Option (SC×List aD×Nat))->Prop
 |_,[]=>True
 |k,none::r=>CV P (k+1) r
 |k,some (sc,rs,n)::r=>dh P k sc rs n/\CV P (k+1) r
def nE:∀{l:List (Option (SC×List aD×Nat))}{k i:Nat}{sc:SC}{rs:List aD}{n:Nat},CV P k l->l.getD i none=some (sc,rs,n)->dh P (k+i) sc rs n
 |[],_,i,_,_,_,_,h=>by simp at h
 |none::r,k,0,_,_,_,_,h=>by simp at h
 |some (sc',rs',n')::r,k,0,sc,rs,n,ho,h=>by simp at h;obtain⟨rfl,rfl,rfl⟩:=h;exact ho.1
 |none::r,k,i+1,sc,rs,n,ho,h=>by
  have:=nE (k:=k+1) (i:=i) ho (by simpa using h);rwa [show k+(i+1)=k+1+i by omega]
 |some (sc',rs',n')::r,k,i+1,sc,rs,n,ho,h=>by
  have:=nE (k:=k+1) (i:=i) ho.2 (by simpa using h);rwa [show k+(i+1)=k+1+i by omega]
def arS{l:List (Option (SC×List aD×Nat))}(h:CV P 0 l):arR P fun f=>l.getD f none:=fun f sc rs n hf=>by
 have:=nE h hf;rwa [zzbv]at this
end
def Yv(P:Program)(f:Func):SC:=match f.body with
 |some c=>Ym P c
 |none=>.bad
def Yw(P:Program)(f:Func):List aD:=fT P f.results.toList
def fgH:Nat->Fg
 |0=>.eff
 |1=>.pre
 |_=>.oth
def drH(p:Nat)(l:List SO):List Nat->SC
 |[]=>.draw (l.take p) (l.drop p)
 |f=>.drawE (f.map fgH) (l.take p) (l.drop p)
def Qci(P:Program):Code->List (List Nat)->SC×List (List Nat)
 |.skip,h=>(.skip,h)
 |.region _ ops false,h=>(.ops (ops.toList.map (Xn P ops)),h)
 |.region _ ops true,(p::f)::h=>(drH p (ops.toList.map (Xn P ops)) f,h)
 |.seq a b,h=>match Qci P a h with
  |(x,h)=>match Qci P b h with
   |(y,h)=>(.seq x y,h)
 |.cond c a b,h=>match Qci P a h with
  |(x,h)=>match Qci P b h with
   |(y,h)=>(.cond (aA c) x y,h)
 |.block n a,h=>match Qci P a h with
  |(x,h)=>(.block n x,h)
 |.loop a,h=>match Qci P a h with
  |(x,h)=>(.loop x,h)
 |.exit n,h=>(.exit n,h)
 |.label _,h=>(.skip,h)
 |.scope a,h=>match Qci P a h with
  |(x,h)=>(.scope x,h)
 |.rangeFunc g ps a b,h=>match Qci P a h with
  |(x,h)=>match Qci P b h with
   |(y,h)=>(.rfunc (aA g) ps.toList x y,h)
 |.ret,h=>(.ret,h)
 |_,h=>(.bad,h)
def scH(P:Program)(f:Func)(h:List (List Nat)):SC:=match f.body with
 |some c=>(Qci P c h).1
 |none=>.bad
end Go.Abs
