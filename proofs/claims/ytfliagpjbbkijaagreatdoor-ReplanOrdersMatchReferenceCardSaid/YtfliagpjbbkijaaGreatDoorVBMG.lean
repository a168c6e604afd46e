import Derived.Test.YtfliagpjbbkijaaGreatDoorVBME
set_option linter.all false
namespace Go.Abs
open Go Go.RowKit
def AX(cs:P1):List (Nat×Nat×AV)->QR
 |[]=>some cs
 |(off,size,a)::r=>bif bare a&&((cellsOf a).length==size)&&Nat.ble (off+size) cs.length then AX (setA cs off (cellsOf a)) r else none
inductive YE where
 |nil
 |cons (l:Nat) (T:P1) (ps:P2) (oU body:SC) (rest:YE)
structure Rc where
 code:YE->SC->AS->Option (Exit×AS)
 fn:YE->FuncId->P1->AM->Option (AV×AM)
section
variable (gl:Nat->AV) (orc:FuncId->P1->AV) (R:Rc) (ye:YE)
end
section
variable (P:Program) (gl:Nat->AV) (orc:FuncId->P1->AV) (R:Rc) (ye:YE)
abbrev Tab:=FuncId->Option (SC×List aC×Nat)
end
section
variable {P:Program} {gl:Nat->AV} {orc:FuncId->P1->AV}
def atb(P:Program)(tab:Tab):Prop:=∀f sc rs n,tab f=some (sc,rs,n)->cO P f sc rs n
open Classical in
def C0(P:Program):Nat->List (Option (SC×List aC×Nat))->Prop
 |_,[]=>True
 |k,none::r=>C0 P (k+1) r
 |k,some (sc,rs,n)::r=>cO P k sc rs n/\C0 P (k+1) r
def mZ:∀{l:List (Option (SC×List aC×Nat))}{k i:Nat}{sc:SC}{rs:List aC}{n:Nat},C0 P k l->l.getD i none=some (sc,rs,n)->cO P (k+i) sc rs n
 |[],_,i,_,_,_,_,h=>by simp at h
 |none::r,k,0,_,_,_,_,h=>by simp at h
 |some (sc',rs',n')::r,k,0,sc,rs,n,ho,h=>by simp at h;obtain⟨rfl,rfl,rfl⟩:=h;exact ho.1
 |none::r,k,i+1,sc,rs,n,ho,h=>by
  have:=mZ (k:=k+1) (i:=i) ho (Nm h);rwa [show k+(i+1)=k+1+i by omega]
 |some (sc',rs',n')::r,k,i+1,sc,rs,n,ho,h=>by
  have:=mZ (k:=k+1) (i:=i) ho.2 (Nm h);rwa [show k+(i+1)=k+1+i by omega]
def atc{l:List (Option (SC×List aC×Nat))}(h:C0 P 0 l):atb P fun f=>l.getD f none:=fun f sc rs n hf=>by
 have:=mZ h hf;rwa [zzbn]at this
end
def Zr(P:Program)(f:Func):SC:=match f.body with
 |some c=>Yd P c
 |none=>.bad
def Zt(P:Program)(f:Func):List aC:=gh P f.results.toList
def fgH:Nat->Fg
 |0=>.eff
 |1=>.pre
 |_=>.oth
def drH(p:Nat)(l:List SO):P2->SC
 |[]=>.draw (l.take p) (l.drop p)
 |c::f=>if c<100 then .drawE ((c::f).map fgH) (l.take p) (l.drop p)else .drawZ (c-100) (f.map fgH) (l.take p) (l.drop p)
def Qch(P:Program):Code->List (P2)->SC×List (P2)
 |.skip,h=>(.skip,h)
 |.region _ ops false,h=>(bif alZ ops then .opsX (ops.toList.map (Xf P ops))else .ops (ops.toList.map (Xf P ops)),h)
 |.region _ ops true,(p::f)::h=>(drH p (ops.toList.map (Xf P ops)) f,h)
 |.seq a b,h=>match Qch P a h with
  |(x,h)=>match Qch P b h with
   |(y,h)=>(.seq x y,h)
 |.cond c a b,h=>match Qch P a h with
  |(x,h)=>match Qch P b h with
   |(y,h)=>(.cond (aA c) x y,h)
 |.block n a,h=>match Qch P a h with
  |(x,h)=>(.block n x,h)
 |.loop a,h=>match Qch P a h with
  |(x,h)=>(.loop x,h)
 |.exit n,h=>(.exit n,h)
 |.label _,h=>(.skip,h)
 |.scope a,h=>match Qch P a h with
  |(x,h)=>(.scope x,h)
 |.rangeFunc g ps a b,h=>match Qch P a h with
  |(x,h)=>match Qch P b h with
   |(y,h)=>(.rfunc (aA g) ps.toList x y,h)
 |.ret,h=>(.ret,h)
 |_,h=>(.bad,h)
def scH(P:Program)(f:Func)(h:List (P2)):SC:=match f.body with
 |some c=>(Qch P c h).1
 |none=>.bad
end Go.Abs
